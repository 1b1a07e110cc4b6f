/- VmEff, VmTree, VmMark, VmOwnOps, VmBuild, VmBuild2, VmSt, VmStep, VmDraw, VmDraw2. -/
import Derived.Test.YtncejbehidimmaaGreatDoorVmOps
import Derived.Eval
set_option linter.all false
namespace Go.Proofs.YtncejbehidimmaaGreatDoor
def a7G:=@List.getD_eq_getElem?_getD
def a9v:=@Array.eq_empty_of_size_eq_zero
def b1Q:=@Go.setRow_heap
def b1n:=@Nat.min_eq_left
def a9A:=@List.drop_eq_nil_of_le
def a8A:=@List.length_set
def b0P:=@List.size_toArray
def a8R:=@List.map_append
def a8Z:=@Go.Value.tuple.injEq
def b0X:=@List.toArray_inj
def a8y:=@List.mem_cons_of_mem
def a7Q:=@List.nodup_append
def a8p:=@List.cons_append
def a8F:=@List.nodup_nil
def a8b:=@List.nodup_cons
def a9a:=@List.take_append_drop
def b0Y:=@List.map_set
def a9X:=@List.set_append_right
def b0Z:=@List.eq_of_mem_replicate
def a9c:=@Bool.or_eq_true
def b0g:=@Nat.lt_irrefl
def b1F:=@Array.toList_append
def a9D:=@List.mem_cons_self
def a9i:=@List.mem_range
def b0i:=@Classical.byContradiction
def b1a:=@List.nodup_range
def a9S:=@List.Nodup.length_le_of_subset
def a8X:=@Go.Oper.wp_mono
def a9Y:=@List.getElem?_eq_none
def a9M:=@Option.getD_some
def a9E:=@List.foldl_cons
def a9G:=@List.foldl_append
def b1o:=@List.range_succ
def a9Z:=@List.singleton_append
def a9w:=@List.length_erase_of_mem
def a9B:=@List.length_pos_of_mem
theorem Cq(f:aw->aw):∀ (l:List (Nat×aw)) (j:Nat),ag (l.map λ p=>(p.1,f p.2)) j=(ag l j).map f
 | [],_=>rfl
 | (k,o)::r,j=>by
  simp only[a8d,ag];split
  .rfl
  .exact Cq f r j
theorem dU(id:Nat):∀ (l:List (Nat×aw)) (j:Nat),ag (bD id l) j=if j=id then none else ag l j
 | [],_=>by simp[bD,ag]
 | (k,o)::r,j=>by
  simp only[bD];split
  .rename_i h;have h:=a7w h;subst h;rw[dU k r j];by_cases hj:j=k
   .simp[hj]
   .rw[a7z hj,a7z hj];simp only[ag];split
    .rename_i h;exact absurd (a7w h).symm hj
    .rfl
  .rename_i h;have hk:k≠id:=λ e=>by subst e;simp at h
   simp only[ag];split
   .rename_i h';have h':=a7w h';subst h';rw[a7z hk]
   .exact dU id r j
theorem dj(k:Nat)(o:aw)(l:List (Nat×aw))(j:Nat):ag ((k,o)::l) j=if j=k then some o else ag l j:=by
 simp only[ag];split
 .rename_i h;rw[a7E (a7w h).symm]
 .rename_i h;have:j≠k:=λ e=>by subst e;simp at h
  rw[a7z this]
theorem nz(l:List AV)(d:Nat)(v:AV)(o:List (Nat×aw)):ah.sl ⟨l.set d v,o⟩=iz l.length (ah.sl ⟨l,o⟩) (some d) v:=by
 funext i;simp only[ah.sl,iz,a7G,List.getElem?_set,a7v];by_cases h:d=i
 .subst h;by_cases hl:d<l.length
  .simp[hl]
  .simp[hl]
 .simp[h]
theorem Wo(s:ah)(d:Option Nat)(v:AV):(s.put d v).sl=iz s.aA.length s.sl d v:=by
 cases d with
 | none=>funext i;simp[ah.put,iz]
 | some d=>exact nz s.aA d v s.aH
theorem PT(s:ah)(d:Option Nat)(v:AV):(s.put d v).ag=s.ag:=by cases d<;>rfl
theorem J9(s:ah)(d:Option Nat)(v:AV):(s.put d v).aA.length=s.aA.length:=by cases d<;>simp[ah.put]
theorem P5(s:ah)(id:Nat):(s.bO id).sl=λ i=>(s.sl i).kill id:=by
 funext i;simp only[ah.sl,ah.bO,a7G,a8T];cases s.aA[i]?<;>simp[AV.kill,AV.refs]
theorem dM(s:ah)(id:Nat):(s.bO id).ag=λ i=>(s.ag i).map (aw.kill id):=by
 funext i;exact Cq _ _ _
section
variable {c:Ctx} {G:Gh} {s:ah} {a:Act} {w w':World}
theorem Inv.put(h:Inv c G s a w){d:Option Nat}{v:AV}{x:Value}(hv:VR c G s.ag w v x):Inv c G (s.put d v) (a.put d x) w:=by
 unfold Inv;rw[Wo,PT,J9];exact bf.put h hv
theorem Inv.clear(h:Inv c G s a w)(id:Nat):bf c G (s.bO id).sl s.aA.length (λ i=>if i=id then none else (s.bO id).ag i) a w /\
  (∀ i,((s.bO id).sl i).refs id=false)/\∀ i o,(s.bO id).ag i=some o->o.refs id=false:=by
 have h1:=bf.bO h id;have hs:∀ i,((s.bO id).sl i).refs id=false:=λ i=>by rw[P5];exact yz id _
 have ho:∀ i o,(s.bO id).ag i=some o->o.refs id=false:=λ i o cd=>by
  rw[dM] at cd;simp only[a8f] at cd;obtain⟨o',_,rfl⟩:=cd;cases o' with
  | box cs=>exact BU id cs
  | row e τ xs=>rfl
  | aC τ xs=>rfl
  | map m=>rfl
 refine⟨?_,hs,ho⟩;rw[P5,dM];exact bf.a0S h1 id (λ i=>yz id _) (λ i o cd _=>by
  have:=ho i o (by rw[dM];exact cd);exact this)
theorem OQ(id:Nat)(o:aw):(o.kill id).refs id=false:=by
 cases o with
 | box cs=>exact BU id cs
 | row e τ xs=>rfl
 | aC τ xs=>rfl
 | map m=>rfl
theorem Inv.V5(h:Inv c G s a w){id:Nat}{v:AV}{o:aw}{x:Value}(bp:id<400000)(hN:Vy c G s.ag w x o)(hL:LV (some id) v o)
  (hblk:∀ b,dx x=some b->(c.w0.heap.size<=b\/c.X b)/\¬ G.S b/\b<w.heap.size/\(∀ i o',i≠id->s.ag i=some o'->dx (G.η i)≠some b)/\∀ j τ xs,s.ag j=some (.aC τ xs)->b∉G.φ j) :
  Inv c ⟨G.S,λ i=>if i=id then x else G.η i,G.φ⟩ (s.lay (some id) v (some o)) (a.put (some id) x) w:=by
 obtain⟨h1,h2,h3⟩:=h.clear id;have bP:(s.lay (some id) v (some o)).ag=λ i=>if i=id then some (o.kill id) else (if i=id then none else (s.bO id).ag i):=by
  funext i;show ag ((id,o.kill id)::bD id (s.bO id).aH) i=_;rw[dj,dU];rfl
 have wa:(s.lay (some id) v (some o)).sl=iz s.aA.length (s.bO id).sl (some id) v:=by
  have:=nz (s.bO id).aA id v ((id,o.kill id)::bD id (s.bO id).aH);rw[show (s.bO id).aA.length=s.aA.length from by simp[ah.bO]] at this;exact this
 have hlen:(s.lay (some id) v (some o)).aA.length=s.aA.length:=by simp[ah.lay,ah.bO]
 have nM:OR c ⟨G.S,λ i=>if i=id then x else G.η i,G.φ⟩ (λ i=>if i=id then some (o.kill id) else (if i=id then none else (s.bO id).ag i)) w id (o.kill id):=by
  cases o with
  | box cs =>
   obtain⟨b,l,t,k1,k2,k3⟩:=hN;refine⟨b,l,t,by simp[k1],k2,aM.dF _ (k3.imp λ u y _ hy=>?_)⟩;refine (hy.kill id).mono (λ j hj=>?_) (λ _ h=>h) (λ _ _=>rfl);have dm:j≠id:=λ e=>by subst e;rw[yz] at hj;cases hj
   simp only[a7z dm];exact⟨by rw[dM];exact Ft id _,af⟩
  | row e τ xs =>
   obtain⟨l,k1,k2,k3⟩:=hN;exact⟨l,by simpa using k1,k2,k3⟩
  | aC τ xs=>exact hN.elim
  | map m =>
   obtain⟨b,es,clock,k1,k2,k3⟩:=hN;exact⟨b,es,clock,by simp[k1],k2,k3⟩
 have Sz:cU (some (o.kill id))=false:=by
  cases o with
  | aC τ xs=>exact hN.elim
  | _=>rfl
 have h4:=bf.newObj h1 id (o.kill id) x (by simp) h2 (λ i p rj=>by
  by_cases hi:i=id
  .simp[hi] at rj
  .rw[a7z hi] at rj;exact h3 i p rj) (OQ id o) nM Sz (.inr bp) (λ b hb=>by
  obtain⟨q1,q2,q3,q4,q5⟩:=hblk b hb;refine⟨q1,q2,q3,λ i p rj=>?_,λ j τ xs hj=>?_⟩
  .by_cases hi:i=id
   .simp[hi] at rj
   .rw[a7z hi,dM] at rj;simp only[a8f] at rj;obtain⟨p',KG,_⟩:=rj;exact q4 i p' hi KG
  .by_cases hi:j=id
   .simp[hi] at hj
   .rw[a7z hi,dM] at hj;exact q5 j τ xs (ib hj))
 unfold Inv;rw[wa,bP,hlen];refine bf.put h4 ?_;cases o with
 | box cs =>
  obtain⟨i,hi,rfl⟩:=hL;simp only[a7v] at hi;subst hi;obtain⟨b,l,t,k1,k2,k3⟩:=hN;exact⟨b,by simp[k1],k1,by simp[aw.kill,gH]⟩
 | row e τ xs =>
  obtain⟨i,hi,rfl⟩:=hL;simp only[a7v] at hi;subst hi;obtain⟨l,k1,k2,k3⟩:=hN;refine⟨by simp,by simp[aw.kill,isRow],?_⟩;rcases k1.2 with ⟨rfl,_⟩|⟨g,cap,cur,rfl,_⟩
  .exact⟨_,_,_,rfl⟩
  .exact⟨_,_,_,rfl⟩
 | aC τ xs=>exact hN.elim
 | map m =>
  obtain⟨i,hi,rfl⟩:=hL;simp only[a7v] at hi;subst hi;obtain⟨b,es,clock,k1,k2,k3⟩:=hN;exact⟨by simp,by simp[aw.kill,E5],b,k1⟩
theorem Nr(h0:Inv c G s a w){d:Option Nat}(EX:pE d=true){v:AV}{ob:Option aw}{a':Act}(h:uj c G s.sl s.aA.length s.ag d a w v ob a' w'):∃ G',Inv c G' (s.lay d v ob) a' w':=by
 obtain⟨x,S',rfl,hI,hx⟩:=h;cases ob with
 | none=>exact⟨_,by cases d<;>exact Inv.put (s:=s) hI hx⟩
 | some o =>
  obtain⟨hL,hN,hb⟩:=hx;have hd:∃ i,d=some i:=by cases o<;>first|exact⟨_,hL.choose_spec.1⟩|exact hL.elim
  obtain⟨i,rfl⟩:=hd;refine⟨_,Inv.V5 (s:=s) hI (a8w EX) hN hL λ b ID=>?_⟩;obtain⟨h1,h2,h3⟩:=hb b ID;have hle:=h0.aK.size;refine⟨by omega,h3,h2,λ j o' _ hj KD=>?_,λ j τ xs hj KD=>?_⟩
  .have:=(h0.place j o' b hj KD).2.2;omega
  .have:=(h0.aN.pl j τ xs b hj KD).2.2.1;omega
theorem R8{k:IntKind}{n:Int}(h:Mn k n=true):k.min<=n/\n<=k.max:=by
 unfold Mn at h;split at h
 .rename_i m;split at h<;>have h:=a8w h<;>try (simp[IntKind.min,IntKind.max,IntKind.signed,IntKind.bits];omega)
  cases k<;>simp_all [IntKind.min,IntKind.max,IntKind.signed,IntKind.bits]<;>omega
 .rename_i m;split at h
  .have h:=a8w h;simp[IntKind.min,IntKind.max,IntKind.signed,IntKind.bits];omega
  .cases h
theorem Dq(lk:Nat->Option aw)(v:Value):C1 c G lk w (Ge v) v:=by
 unfold Ge;split
 .split
  .rename_i h;exact⟨rfl,rfl,R8 h⟩
  .trivial
 .exact⟨rfl,rfl⟩
 .split
  .rename_i sv _ h;have h:=a8w h;exact⟨rfl,sv,rfl,rfl,by have:sv.size=sv.data.size:=rfl;omega⟩
  .trivial
 .rfl
 .trivial
theorem aX(h:Inv c G s a w)(x:Operand):VR c G s.ag w (s.eval x) (a.eval x):=by
 cases x with
 | tmp t=>exact h.aA t
 | const v =>
  simp only[ah.eval,Act.eval];unfold R7;split
  .rename_i cs;refine⟨cs.toList,rfl,aM.dF _ ?_⟩;have:∀ l:List Value,aM (λ u y=>C1 c G s.ag w (Ge u) y) l l:=by
    intro l;induction l with
    | nil=>trivial
    | cons u r ih=>exact⟨Dq _ u,ih⟩
   exact this _
  .rename_i cs;split
   .rename_i hz;have:cs = #[]:=a9v (a7w hz);subst this;exact rfl
   .trivial
  .exact (Dq _ v).eQ
 | global g=>trivial
 | func f=>rfl
theorem kk{g:Nat}{Xk cs:Array Value}{t:TypeId}{fr:Nat×Nat}(w:World)(hg:w.heap[g]?=some (.cells Xk t fr))(k:Nat)(hk:k≠g):(w.setRow g cs).heap[k]?=w.heap[k]?:=setRow_other w g k cs hk
theorem yL(hE:bo c.P c.E){T:TypeId}{τ:Ty}{b e:Nat}(hT:ag c.E.ty T=some (τ,b,e)){g o:Nat}{l:List Value}{t:TypeId}{x:Value}(hg:w.heap[g]?=some (.cells l.toArray t (0,0)))
  (hx:x.cells.toList.length=τ.size) (h1:∀ u∈x.cells.toList,u.oneCell'=true) (Bf:o+τ.size<=l.length) :
  (Instr.storeAt T (.pointer (some ⟨g,o,none⟩)) x).run c.P w = .ok () (w.setRow g (l.take o++x.cells.toList++l.drop (o+τ.size)).toArray):=by
 have hn:¬ (x.cells.size≠τ.size):=by simpa using hx
 simp only[Instr.storeAt,Instr.sureAddr,storeVar,Sem.run_bind,Sem.run_pure,Result.andThen_ok,hE.sizeOf hT,if_neg hn];have:=run_storeCells_at c.P g o t x.cells.toList 0 l.toArray w hg (by simp at hx ⊢;omega) h1;simpa [hx] using this
theorem O2{cs new dt:List AV}{off:Nat}(h:putCells cs off new=some dt):off+new.length<=cs.length/\dt=cs.take off++(new++cs.drop (off+new.length)):=by
 unfold putCells at h;split at h
 .rename_i hb;simp only[a7v] at h;exact⟨a8w hb,h.symm⟩
 .cases h
theorem Inv.store(hE:bo c.P c.E)(h:Inv c G s a w){T:TypeId}{τ:Ty}{bt e:Nat}(hT:ag c.E.ty T=some (τ,bt,e)){id off:Nat}{cs new dt:List AV}{x p:Value}(aO:s.ag id=some (.box cs))(hp:VR c G s.ag w (.ptr id off) p)
  (nM:∃ v,cellsOf τ v=some new/\VR c G s.ag w v x) (xh:putCells cs off new=some dt) :
  ∃ w',(Instr.storeAt T p x).run c.P w = .ok () w'/\Inv c G { s with aH:=(id, .box dt)::bD id s.aH } a w':=by
 obtain⟨v,hv,hx⟩:=nM;obtain⟨h1,h2,h3⟩:=vN hv hx;obtain⟨h4,rfl⟩:=O2 xh;obtain⟨b,k1,rfl,_⟩:=hp;obtain⟨b',l,t,k2,k3,k4⟩:=h.aH id _ aO;rw[k1] at k2;simp only[a9P,a7v,a9n,a7W] at k2;subst k2;have hlen:=h1.length;have W1:=k4.length;have cC:=yL (c:=c) hE hT (o:=off) (x:=x) k3 (by omega) h2 (by omega);refine⟨_,cC,?_⟩;have wa:ah.sl { s with aH:=(id, .box (cs.take off++(new++cs.drop (off+new.length))))::bD id s.aH }=s.sl:=rfl;have bP:ah.ag { s with aH:=(id, .box (cs.take off++(new++cs.drop (off+new.length))))::bD id s.aH }=λ i=>if i=id then some (.box (cs.take off++(new++cs.drop (off+new.length)))) else s.ag i:=by
  funext i;show ag (_::bD id s.aH) i=_;rw[dj,dU];by_cases hi:i=id
  .simp[hi]
  .simp[hi];rfl
 unfold Inv;rw[wa,bP];have bU:∀ k,St c G.S k->(w.setRow b (l.take off++x.cells.toList++l.drop (off+τ.size)).toArray).heap[k]?=w.heap[k]?:=λ k hk=>kk w k3 k λ e=>by
  subst e;obtain⟨q1,q2,q3⟩:=h.place id _ k aO (by rw[k1];rfl);rcases hk with hk|hk
  .exact q2 hk
  .exact q1.elim (λ q=>by omega) hk.2.1
 have fh:∀ j,eg (s.ag j) ((λ i=>if i=id then some (aw.box (cs.take off++(new++cs.drop (off+new.length)))) else s.ag i) j):=λ j=>by
  by_cases hj:j=id
  .subst hj;simp only[a9o];exact⟨λ _=>rfl,(λ e τ xs hh=>by rw[aO] at hh;cases hh),(λ hh=>by rw[aO] at hh;cases hh),λ hh=>by rw[aO] at hh;cases hh⟩
  .simp only[a7z hj];exact eg.refl _
 refine bf.Rl h id _ _ b aO (by rw[k1];rfl) ⟨λ _=>rfl,(λ e τ xs hh=>by cases hh),(λ hh=>by cases hh),λ hh=>by cases hh⟩ rfl (λ k hk=>kk w k3 k hk) rfl rfl rfl (by simp[World.setRow]) ?_;refine⟨b,_,t,k1,b1Q w b _ _ t _ k3,?_⟩;have key:aM (C1 c G s.ag w) (cs.take off++(new++cs.drop (off+new.length))) (l.take off++x.cells.toList++l.drop (off+τ.size)):=by
  rw[a8c,<-h3];exact aM.append (k4.take off) (aM.append h1 (k4.drop _))
 exact key.imp λ u y _ hy=>hy.mono (λ j _=>⟨fh j,rfl⟩) (λ _ h=>h) bU
theorem Nt(cur cj:List Value)(o sz N:Nat)(hv:cj.length=sz)(hN:o+sz<=N)(hc:N<=cur.length) :
  (cur.take o++cj++cur.drop (o+sz)).take N=(cur.take N).take o++cj++(cur.take N).drop (o+sz):=by
 have h1:(cur.take o++cj).length=o+sz:=by simp[hv];omega
 rw[b0V,h1,a8o (by omega),List.take_take,b1n (by omega),List.drop_take]
theorem cZ.a2R{S:Nat->Prop}{n:Nat}{d':D}{c':List Value}(hd:Rd w S d' c')(rm:c'.length=n):∀ (ds:List D) {l:List Value} (i:Nat),cZ w S ds l->(∀ d∈ds,d.size=n)->i<ds.length->cZ w S (ds.set i d') (l.take (i * n)++c'++l.drop (i * n+n))
 | [],l,i,_,_,hi=>by simp at hi
 | e::ds,l,0,h,hn,_=>by
  obtain⟨c1,r,rfl,h2,h3⟩:=h;have hc:c1.length=n:=by rw[Rd.length _ h2];exact hn _ (by simp)
  refine⟨c',r,?_,hd,h3⟩;simp only[b0x,a9z,a8l,a8W];rw[<-hc,b0o]
 | e::ds,l,i+1,h,hn,hi=>by
  obtain⟨c1,r,rfl,h2,h3⟩:=h;have hc:c1.length=n:=by rw[Rd.length _ h2];exact hn _ (by simp)
  refine⟨c1,r.take (i * n)++c'++r.drop (i * n+n),?_,h2,cZ.a2R hd rm ds i h3 (λ d hd=>hn d (by simp[hd])) (by simpa using hi)⟩;have e1:(i+1) * n=c1.length+i * n:=by rw[Nat.add_mul,hc];omega
  rw[e1,b0V,a8o (by omega),show c1.length+i * n - c1.length=i * n by omega,b0f,List.drop_append,a9A (by omega),a8l,
   show c1.length+(i * n+n) - c1.length=i * n+n by omega]
  simp
theorem Inv.XB(hE:bo c.P c.E)(h:Inv c G s a w){T:TypeId}{τ:Ty}{bt e:Nat}(hT:ag c.E.ty T=some (τ,bt,e)){id i:Nat}{e':TypeId}{xs:List τ.den}{v:AV}{y:τ.den}{x p:Value}(aO:s.ag id=some (.row e' τ xs))
  (hp:VR c G s.ag w (.dS id i 0) p) (hx:VR c G s.ag w v x) (hy:ri (λ _=>none) τ v=some y) :
  ∃ w',(Instr.storeAt T p x).run c.P w = .ok () w'/\Inv c G { s with aH:=(id, .row e' τ (xs.set i y))::bD id s.aH } a w':=by
 obtain⟨b,n,cap,e1,Lp,Ov,k1,k2,k3,rfl⟩:=hp;rw[aO] at k2;simp only[a7v,aw.row.injEq] at k2;obtain⟨rfl,rfl,k2⟩:=k2;have k2:=b0k k2;subst k2;have hr:=(wB hy hx).cells;have qk:x.cells.toList.length=τ.size:=by
  have:=Rd.length _ hr;rwa [show TV.aI ⟨τ,y⟩=τ.aI y from rfl,Ty.cm] at this
 have sO:∀ u∈x.cells.toList,u.oneCell'=true:=Rd.jb (x:=y) hr;obtain⟨l,m1,m2,m3⟩:=h.aH id _ aO;have bW:∀ d∈xs.map τ.aI,d.size=τ.size:=by
  intro d hd;obtain⟨z,_,rfl⟩:=a7B.1 hd;exact Ty.cm τ z
 have W1:=cZ.length _ m2 bW;simp only[a8n] at W1;have Bf:i * τ.size+τ.size<=xs.length * τ.size:=by
  have:=a9f τ.size (show i+1<=xs.length by omega);rw[a8B] at this;omega
 rcases m1.2 with ⟨hv,_⟩|⟨g,Mj,cur,hv,_,hh,OL,Uw,ij,Zl⟩
 .rw[k1] at hv;cases hv
 .rw[k1] at hv;simp only[a9k,a7v,a9n,a7W] at hv;obtain⟨rfl,rfl,rfl⟩:=hv;have xe:xs.length * τ.size<=cur.toList.length:=by
   rw[a8q (xs:=cur),ij];exact a9f _ OL
  have cC:=yL (c:=c) (l:=cur.toList) hE hT (o:=i * τ.size+0) (x:=x) (by simpa using hh) qk sO (by omega);refine⟨_,cC,?_⟩;have bP:ah.ag { s with aH:=(id, .row e' τ (xs.set i y))::bD id s.aH }=λ j=>if j=id then some (.row e' τ (xs.set i y)) else s.ag j:=by
   funext j;show ag (_::bD id s.aH) j=_;rw[dj,dU];by_cases hj:j=id
   .simp[hj]
   .simp[hj];rfl
  unfold Inv;rw[bP];refine bf.Rl h id _ _ b aO (by rw[k1];rfl) ⟨λ hh=>(by cases hh),λ e2 iP kQ hh=>?_,(λ hh=>by cases hh),λ hh=>by cases hh⟩ rfl (λ k hk=>kk w hh k hk) rfl rfl rfl (by simp[World.setRow]) ?_
  .simp only[a7v,aw.row.injEq] at hh;obtain⟨rfl,rfl,hh⟩:=hh;have hh:=b0k hh;subst hh;exact⟨_,_,rfl,by simp⟩
  .refine⟨(l.take (i * τ.size)++x.cells.toList++l.drop (i * τ.size+τ.size)),⟨?_, .inr ⟨b,cap,_,by simpa using k1,Nat.zero_le _,setRow_heap w b cur _ e' _ hh,by simpa using OL,Uw,?_,?_⟩⟩,?_,by simpa using m3⟩
   .rw[a8A,a7K,a7K,a8D,a8J,qk,W1];omega
   .rw[b0P,a7K,a7K,a8D,a8J,qk,<-ij,<-a8q (xs:=cur)];omega
   .simp only[a9u,a8A];rw[Nt _ _ _ _ _ qk Bf xe,Zl]
   .rw[List.map_set];have:=cZ.a2R hr (by rw[qk]) _ i m2 bW (by simpa using k3);refine cZ.aK (λ _ h=>h) (λ k hk=>kk w hh k λ e=>?_) _ this;subst e;exact (h.place id _ k aO (by rw[k1];rfl)).2.1 hk
theorem Inv.Cr(hE:bo c.P c.E)(h:Inv c G s a w){T:TypeId}{κ ε:Ty}(hT:ag c.E.Hj T=some (κ,ε)){id:Nat}{f:κ.den->Option ε.den}{n:Nat}(aO:s.ag id=some (.map ⟨κ,ε,f,n⟩))
  {k:κ.den} {x:ε.den} {p y z:Value} (hp:VR c G s.ag w (.mp id) p) (hy:du w G.S ⟨κ,k⟩ y) (hz:du w G.S ⟨ε,x⟩ z) (hn:n<1000000000) :
  ∃ w',(Instr.mapUpdate T p y z).run c.P w = .ok () w'/\Inv c G { s with aH:=(id, .map ⟨κ,ε,eL f k x,fK (f k) n⟩)::bD id s.aH } a w':=by
 obtain⟨kT,eT,u1,u2,u3,u4,_⟩:=hE.map hT w;obtain⟨b,es,clock,k1,k2,k3⟩:=h.aH id _ aO;have sc:∀ {τ:Ty} {q:τ.den} {v:Value},τ.key=true->du w G.S ⟨τ,q⟩ v->mH τ q v:=λ {τ q v} hs hv=>by
  refine mH.of (w:=w) (S:=G.S) hs ?_;cases τ with
  | int _=>exact hv
  | bool=>exact hv
  | str=>exact hv
  | _=>cases hs
 obtain⟨Sc,Lt,m1,m2⟩:=k3.store (P:=c.P) u1 u2 k2 (xT.of u3 hy) (sc u4 hz) hn;obtain⟨SA,_⟩:=hp;refine⟨_,by rw[SA,k1];exact m1,?_⟩;have bP:ah.ag { s with aH:=(id, .map ⟨κ,ε,eL f k x,fK (f k) n⟩)::bD id s.aH }=λ i=>if i=id then some (.map ⟨κ,ε,eL f k x,fK (f k) n⟩) else s.ag i:=by
  funext i;show ag ((id,_)::bD id s.aH) i=_;rw[dj,dU];by_cases hi:i=id
  .simp[hi]
  .simp[hi];rfl
 unfold Inv;rw[bP];obtain⟨q1,q2⟩:=MapKept.heap_set (o' := .map Sc Lt) k2;refine bf.Rl h id _ _ b aO (by rw[k1];rfl) ⟨λ hh=>(by cases hh),(λ e τ xs hh=>by cases hh),(λ hh=>by cases hh),λ _=>rfl⟩ rfl q2 rfl rfl rfl (by simp) ?_;exact⟨b,Sc,Lt,k1,q1,m2⟩
theorem Inv.append(hE:bo c.P c.E)(h:Inv c G s a w){T:TypeId}{τ:Ty}{bt e id d:Nat}(hT:ag c.E.ty T=some (.slice τ,bt,e)){xs ys:List τ.den}{y:AV}{v z:Value}(aO:s.ag id=some (.row e τ xs))
  (hv:VR c G s.ag w (.row id) v) (hz:VR c G s.ag w y z) (hy:ik (Ho s.ag) (.slice τ) y=some ys) (yy:bB (xs.length+ys.length) bt) (ty:TypeId) :
  ∃ v' w' G',(Builtin.append_ #[T,T] ty #[v,z]).run c.P w = .ok v' w' /\
   Inv c G' { aA:=(s.bO id).aA.set d (.row id),aH:=(id, .row e τ (xs++ys))::bD id (s.bO id).aH } (a.put (some d) v') w':=by
 obtain⟨rfl,_,_⟩:=hv;have hzc:C1 c G s.ag w y z:=by
  refine hz.P7 ?_;cases y with
  | aQ u =>
   have e:=TV.aR hy;subst e;rfl
  | nil=>rfl
  | row i=>rfl
  | aC i=>rfl
  | _=>cases hy
 obtain⟨l,m1,m2,m3⟩:=h.aH id _ aO;obtain⟨v',w',news,k1,k2,k3,k4,k5,k6⟩:=JH (w:=w) (base:=0) hE hT m1 (a8r _) (VB h.aH (BP λ _ _ h=>h) SY hy hzc) yy ty;have KF:=oD m1;have a2x:=oD k2;obtain⟨h1,h2,h3⟩:=h.clear id;have eO:∀ b,dx (G.η id)=some b->(c.w0.heap.size<=b\/c.X b)/\¬ G.S b/\b<w.heap.size:=λ b hb=>h.place id _ b aO hb;have hw:∀ b,b<w.heap.size->dx (G.η id)≠some b->w'.heap[b]?=w.heap[b]?:=λ b hb dm=>k3.block b hb (by rw[KF];exact λ e=>dm e.symm);have bU:∀ b,St c G.S b->w'.heap[b]?=w.heap[b]?:=λ b hb=>by
  refine hw b ?_ λ e=>?_
  .rcases hb with hb|hb
   .exact h.dy b hb
   .exact a7F hb.1 h.aK.size
  .obtain⟨q1,q2,q3⟩:=eO b e;rcases hb with hb|hb
   .exact q2 hb
   .exact q1.elim (λ q=>by omega) hb.2.1
 have a5Y:∀ j τ xs b,s.ag j=some (.aC τ xs)->b∈G.φ j->w'.heap[b]?=w.heap[b]?:=λ j τ xs b hj hb =>
  hw b (h.aN.pl j τ xs b hj hb).2.2.1 ((h.aN.pl j τ xs b hj hb).2.2.2 id _ aO)
 have xg:∀ j o b,j≠id->s.ag j=some o->dx (G.η j)=some b->w'.heap[b]?=w.heap[b]?:=λ j o b hj ho hb=>by
  refine hw b (h.place j o b ho hb).2.2 λ e=>?_;exact hj (h.apart j id o _ b ho aO hb e)
 have h4:bf c ⟨G.S,G.η,G.φ⟩ (s.bO id).sl s.aA.length (λ i=>if i=id then none else (s.bO id).ag i) a w':=by
  refine h1.world (S':=G.S) ⟨k3.os,k3.tape,k3.output,k3.size,λ b hb hx=>hw b hb λ e=>hx (eO b e).1⟩ (λ _ h=>h) (λ _ _=>a9Q) h1.sX (λ b hb=>a7F (h1.dy b hb) k3.size) bU ?_ (λ j τ xs b hj hb=>by
   by_cases qj:j=id
   .simp[qj] at hj
   .rw[a7z qj,dM] at hj;exact a5Y j τ xs b (ib hj) hb)
  intro j o b hj hb;by_cases qj:j=id
  .simp[qj] at hj
  .rw[a7z qj,dM] at hj;simp only[a8f] at hj;obtain⟨o',cH,_⟩:=hj;exact xg j o' b qj cH hb
 have a3z:((xs++ys).length)=xs.length+ys.length:=by simp
 have h5:=bf.newObj h4 id (.row e τ (xs++ys)) v' (by simp) h2 (λ i p rj=>by
  by_cases hi:i=id
  .simp[hi] at rj
  .rw[if_neg hi] at rj;exact h3 i p rj) rfl ⟨l++news,by simpa using k2,by
    rw[a8R];exact cZ.append _ _ (cZ.aK (λ _ h=>h) (λ b hb=>bU b (.inl hb)) _ m2) (cZ.aK (λ _ h=>h) (λ b hb=>bU b (.inl hb)) _ k5),by rw[a3z];exact k6⟩ rfl (.inl rfl) (λ b hb=>by
  have bp:=(k2.lt b (a2x.trans hb)).2;have QT:dx (G.η id)=some b\/b=w.heap.size:=by
   rw[<-a2x,] at hb;rcases k4 with q|q
   .left;rw[<-KF,<-q];exact hb
   .right;rw[q] at hb;exact (a8I hb).symm
  refine⟨?_,?_,bp,λ j p WZ KD=>?_,λ j iP kQ GZ KD=>?_⟩
  .rcases QT with q|q
   .exact (eO b q).1
   .have:=h.aK.size;omega
  .rcases QT with q|q
   .exact (eO b q).2.1
   .intro hs;have:=h.dy b hs;omega
  .by_cases qj:j=id
   .simp[qj] at WZ
   .rw[a7z qj,dM] at WZ;simp only[a8f] at WZ;obtain⟨o',cH,_⟩:=WZ;rcases QT with q|q
    .exact qj (h.apart j id o' _ b cH aO KD q)
    .have:=(h.place j o' b cH KD).2.2;omega
  .by_cases qj:j=id
   .simp[qj] at GZ
   .rw[a7z qj,dM] at GZ;obtain⟨_,_,q3,q4⟩:=h.aN.pl j iP kQ b (ib GZ) KD;rcases QT with q|q
    .exact q4 id _ aO q
    .omega)
 refine⟨v',w',⟨G.S,λ i=>if i=id then v' else G.η i,G.φ⟩,k1,?_⟩;unfold Inv;have bP:ah.ag { aA:=(s.bO id).aA.set d (.row id),aH:=(id, .row e τ (xs++ys))::bD id (s.bO id).aH }=λ i=>if i=id then some (.row e τ (xs++ys)) else (if i=id then none else (s.bO id).ag i):=by
  funext i;show ag (_::bD id (s.bO id).aH) i=_;rw[dj,dU];rfl
 have wa:ah.sl { aA:=(s.bO id).aA.set d (.row id),aH:=(id, .row e τ (xs++ys))::bD id (s.bO id).aH }=iz s.aA.length (s.bO id).sl (some d) (.row id):=by
  have:=nz (s.bO id).aA d (.row id) ((id, .row e τ (xs++ys))::bD id (s.bO id).aH);rw[show (s.bO id).aA.length=s.aA.length from by simp[ah.bO]] at this;exact this
 rw[wa,bP,show ({ aA:=(s.bO id).aA.set d (.row id),aH:=(id, .row e τ (xs++ys))::bD id (s.bO id).aH }:ah).aA.length=s.aA.length from by simp[ah.bO]];refine bf.put h5 ⟨by simp,by simp[isRow],?_⟩;rcases k2.2 with ⟨rfl,_⟩|⟨g,cap,cur,rfl,_⟩
 .exact⟨_,_,_,rfl⟩
 .exact⟨_,_,_,rfl⟩
end
section
variable {c:Ctx} {G:Gh} {sl:Nat->AV} {n:Nat} {lk:Nat->Option aw} {a:Act} {w w':World}
theorem bf.NF(h:bf c G sl n lk a w)(id:Nat)(τ:Ty)(xs:List τ.den)(XJ:Value)(fp:List Nat)(aO:lk id=none)(hs:∀ i,(sl i).refs id=false)(ho:∀ i o,lk i=some o->o.refs id=false)
  (a5t:c.R id=none) (hT:gL w XJ τ xs fp) (cX:fp.Nodup) (MZ:∀ b∈fp,(c.w0.heap.size<=b\/c.X b)/\¬ G.S b/\b<w.heap.size/\(∀ i o,lk i=some o->dx (G.η i)≠some b)/\∀ j τ xs,lk j=some (.aC τ xs)->b∉G.φ j) :
  bf c ⟨G.S,λ i=>if i=id then XJ else G.η i,λ i=>if i=id then fp else G.φ i⟩ sl n (λ i=>if i=id then some (.aC τ xs) else lk i) a w:=by
 have fh:∀ j,j≠id->eg (lk j) ((λ i=>if i=id then some (aw.aC τ xs) else lk i) j)/\(if j=id then XJ else G.η j)=G.η j:=λ j hj=>by simp only[a7z hj];exact⟨eg.refl _,af⟩
 have IB:dx XJ=none:=by
  obtain⟨v,l,_,_,h1,_⟩:=hT;rw[h1];rfl
 have hblk:∀ i b,dx (if i=id then XJ else G.η i)=some b->i≠id/\dx (G.η i)=some b:=λ i b hb=>by
  by_cases hi:i=id
  .rw[a7E hi,IB] at hb;cases hb
  .rw[a7z hi] at hb;exact⟨hi,hb⟩
 have hold:∀ j aT cF,(if j=id then some (aw.aC τ xs) else lk j)=some (.aC aT cF)->j≠id->lk j=some (.aC aT cF):=λ j aT cF k hj=>by rwa [a7z hj] at k
 exact {
  defers:=h.defers,size:=h.size,aK:=h.aK,iY:=h.iY,dZ:=h.dZ,sX:=h.sX,dy:=h.dy
  aA:=λ i=>(h.aA i).mono (λ j hj=>fh j (λ e=>by subst e;rw[hs i] at hj;cases hj)) (λ _ h=>h) (λ _ _=>rfl)
  aH:=λ i o' cd=>by
   by_cases hi:i=id
   .subst hi;simp only[a9o,a7v] at cd;subst cd;trivial
   .simp only[a7z hi] at cd;exact (h.aH i o' cd).mono (by simp only[a7z hi]) (λ _ _=>rfl) (λ j hj=>fh j (λ e=>by subst e;rw[ho i o' cd] at hj;cases hj)) (λ _ h=>h) (λ _ _=>rfl)
  place:=λ i o' b cd hb=>by
   obtain⟨hi,hb⟩:=hblk i b hb;simp only[a7z hi] at cd;exact h.place i o' b cd hb
  apart:=λ i j o1 o2 b cd E0 hb cv=>by
   obtain⟨hi,hb⟩:=hblk i b hb;obtain⟨hj,cv⟩:=hblk j b cv;simp only[a7z hi] at cd;simp only[a7z hj] at E0;exact h.apart i j o1 o2 b cd E0 hb cv
  aN:={
   tr:=λ j aT cF k=>by
    by_cases hj:j=id
    .subst hj;simp only[a9o,a7v,aw.aC.injEq] at k ⊢;obtain⟨rfl,k⟩:=k;have k:=b0k k;subst k;exact hT
    .simp only[a7z hj];exact h.aN.tr j aT cF (hold j aT cF k hj)
   nd:=λ j aT cF k=>by
    by_cases hj:j=id
    .simp only[a7E hj];exact cX
    .simp only[a7z hj];exact h.aN.nd j aT cF (hold j aT cF k hj)
   pl:=λ j aT cF b k hb=>by
    have fin:(∀ i o,lk i=some o->dx (G.η i)≠some b)->∀ i o,(if i=id then some (aw.aC τ xs) else lk i)=some o->dx (if i=id then XJ else G.η i)≠some b:=λ hh i o cd e=>by
     obtain⟨hi,e⟩:=hblk i b e;rw[a7z hi] at cd;exact hh i o cd e
    by_cases hj:j=id
    .simp only[a7E hj] at hb;obtain⟨q1,q2,q3,q4,q5⟩:=MZ b hb;exact⟨q1,q2,q3,fin q4⟩
    .simp only[a7z hj] at hb;obtain⟨q1,q2,q3,q4⟩:=h.aN.pl j aT cF b (hold j aT cF k hj) hb;exact⟨q1,q2,q3,fin q4⟩
   ap:=λ j j' Lp iP Ov kQ b k k' hb cv=>by
    by_cases hj:j=id
    .by_cases GY:j'=id
     .rw[hj,GY]
     .simp only[a7E hj] at hb;simp only[a7z GY] at cv;exact absurd cv ((MZ b hb).2.2.2.2 j' iP kQ (hold j' iP kQ k' GY))
    .by_cases GY:j'=id
     .simp only[a7z hj] at hb;simp only[a7E GY] at cv;exact absurd hb ((MZ b cv).2.2.2.2 j Lp Ov (hold j Lp Ov k hj))
     .simp only[a7z hj] at hb;simp only[a7z GY] at cv;exact h.aN.ap j j' Lp iP Ov kQ b (hold j Lp Ov k hj) (hold j' iP kQ k' GY) hb cv }
  root:=λ j v hr ht=>by
   have dm:j≠id:=λ e=>by subst e;rw[a5t] at hr;cases hr
   simp only[a7z dm] at ht ⊢;exact h.root j v hr ht
  fE:=h.fE
  dq:=λ j v hr ht=>by
   by_cases hj:j=id
   .simp only[a7E hj] at ht;cases ht
   .simp only[a7z hj] at ht ⊢;exact h.dq j v hr ht
  eF:=h.eF }
def rb(c:Ctx)(G:Gh)(lk:Nat->Option aw)(w:World)(b:Nat):Prop :=
 (c.w0.heap.size<=b\/c.X b)/\¬ G.S b/\b<w.heap.size/\(∀ i o,lk i=some o->dx (G.η i)≠some b)/\∀ j τ xs,lk j=some (.aC τ xs)->b∉G.φ j
structure Dj(c:Ctx)(G:Gh)(lk lk':Nat->Option aw)(w w':World)(nH:Nat->Value)(mu:Nat->List Nat)(I:Nat->Prop):Prop where
 same:∀ id,¬ I id->lk' id=lk id/\nH id=G.η id/\mu id=G.φ id
 aC:∀ id,I id->∃ τ xs cF v l l',lk id=some (.aC τ xs)/\lk' id=some (.aC τ cF)/\G.η id = .tuple (v::l).toArray/\nH id = .tuple (v::l').toArray/\gL w' (nH id) τ cF (mu id)/\(mu id).Nodup
 a2h:∀ id b,I id->b∈mu id->(∃ di,I di/\b∈G.φ di)\/rb c G lk w' b
 apart:∀ id di b,I id->I di->b∈mu id->b∈mu di->id=di
 heap:∀ b,b<w.heap.size->(∀ id,I id->b∉G.φ id)->w'.heap[b]?=w.heap[b]?
 os:w'.os=w.os
 tape:w'.tape=w.tape
 output:w'.output=w.output
 size:w.heap.size<=w'.heap.size
theorem rb.grow{lk:Nat->Option aw}{b:Nat}(h:rb c G lk w b)(hs:w.heap.size<=w'.heap.size):rb c G lk w' b :=
 ⟨h.1,h.2.1,a7F h.2.2.1 hs,h.2.2.2⟩
theorem Dj.a4e{nH:Nat->Value}{mu:Nat->List Nat}{I:Nat->Prop}{lk':Nat->Option aw}(t:Dj c G lk lk' w w' nH mu I)(id:Nat):eg (lk id) (lk' id):=by
 by_cases hi:I id
 .obtain⟨τ,xs,cF,_,_,_,h1,h2,_⟩:=t.aC id hi;rw[h1,h2];exact⟨λ h=>(by cases h),(λ e τ xs h=>by cases h),(λ _=>rfl),λ hh=>by cases hh⟩
 .rw[(t.same id hi).1];exact eg.refl _
theorem C1.eo{nH:Nat->Value}{mu:Nat->List Nat}{I:Nat->Prop}{lk':Nat->Option aw}(t:Dj c G lk lk' w w' nH mu I)(bU:∀ b,St c G.S b->w'.heap[b]?=w.heap[b]?){u:AV}{x:Value}(hu:u.HM=false)(h:C1 c G lk w u x):C1 c ⟨G.S,nH,mu⟩ lk' w' u x:=by
 have key:(∀ id,u.refs id=true->¬ I id)->C1 c ⟨G.S,nH,mu⟩ lk' w' u x:=λ hk=>h.mono (λ id aO=>⟨t.a4e id,(t.same id (hk id aO)).2.1⟩) (λ _ h=>h) bU;have noT:∀ id,cU (lk id)=false->¬ I id:=λ id hn hi=>by
  obtain⟨τ,xs,_,_,_,_,h1,_⟩:=t.aC id hi;rw[h1] at hn;cases hn
 cases u with
 | aC id =>
  obtain⟨h1,l,h2,h3⟩:=h;by_cases hi:I id
  .obtain⟨τ,xs,cF,v,l0,l',k1,k2,k3,k4,_⟩:=t.aC id hi;rw[k3] at h2;simp only[a8Z,b0X,a7A] at h2;obtain⟨rfl,_⟩:=h2;exact⟨by rw[k2];rfl,l',k4,h3⟩
  .exact key λ j hj=>by
    have:=a7w (show Nat.beq id j=true from hj);subst this;exact hi
 | ed id i off sz =>
  obtain⟨h1,b,n,cap,l,h2,h3⟩:=h;by_cases hi:I id
  .obtain⟨τ,xs,cF,v,l0,l',k1,k2,k3,k4,_⟩:=t.aC id hi;rw[k3] at h2;simp only[a8Z,b0X,a7A] at h2;obtain⟨rfl,_⟩:=h2;exact⟨by rw[k2];rfl,b,n,cap,l',k4,h3⟩
  .exact key λ j hj=>by
    have:=a7w (show Nat.beq id j=true from hj);subst this;exact hi
 | sub id i off sz=>cases hu
 | ptr id off =>
  refine key λ j hj=>?_;have:=a7w (show Nat.beq id j=true from hj);subst this;obtain⟨_,_,_,h3⟩:=h;exact noT id (by match hl:lk id,h3 with|some (.box _),_=>rfl)
 | row id =>
  refine key λ j hj=>?_;have:=a7w (show Nat.beq id j=true from hj);subst this;exact noT id (oQ h.2.1)
 | dS id i off =>
  refine key λ j hj=>?_;have:=a7w (show Nat.beq id j=true from hj);subst this;obtain⟨_,_,_,_,_,_,_,h3,_⟩:=h;exact noT id (by rw[h3];rfl)
 | mp id =>
  refine key λ j hj=>?_;have:=a7w (show Nat.beq id j=true from hj);subst this;exact noT id (DK h.2.1)
 | agg cs=>exact h.elim
 | fZ cs=>exact h.elim
 | cK f cs=>exact h.elim
 | _=>exact key λ j hj=>by cases hj
theorem mo:∀ {cs:List AV} {v:AV},AV.mn cs=false->v∈cs->v.HM=false
 | u::r,v,h,hm=>by
  simp only[AV.mn] at h;split at h
  .cases h
  .rename_i hu;rcases a7J.1 hm with rfl|hm
   .exact hu
   .exact mo h hm
theorem CR.eo{nH:Nat->Value}{mu:Nat->List Nat}{I:Nat->Prop}{lk':Nat->Option aw}(t:Dj c G lk lk' w w' nH mu I)(bU:∀ b,St c G.S b->w'.heap[b]?=w.heap[b]?){u:AV}{x:Value}(hu:u.HM=false)(h:CR c G lk w u x):CR c ⟨G.S,nH,mu⟩ lk' w' u x:=by
 cases u with
 | aQ v=>exact du.mono (G:=G) (G':=⟨G.S,nH,mu⟩) h (λ _ h=>h) (λ b hb=>bU b (.inl hb))
 | agg cs =>
  obtain⟨l,h1,h2⟩:=h;exact⟨l,h1,h2.imp λ u y hm hy=>hy.eo t bU (mo (show AV.mn cs=false from hu) hm)⟩
 | _=>exact C1.TD (C1.eo t bU hu h)
theorem VR.eo{nH:Nat->Value}{mu:Nat->List Nat}{I:Nat->Prop}{lk':Nat->Option aw}(t:Dj c G lk lk' w w' nH mu I)(bU:∀ b,St c G.S b->w'.heap[b]?=w.heap[b]?){u:AV}{x:Value}(hu:u.HM=false)(h:VR c G lk w u x):VR c ⟨G.S,nH,mu⟩ lk' w' u x:=by
 cases u with
 | aQ v=>exact du.mono (G:=G) (G':=⟨G.S,nH,mu⟩) h (λ _ h=>h) (λ b hb=>bU b (.inl hb))
 | agg cs =>
  obtain⟨l,h1,h2⟩:=h;exact⟨l,h1,h2.imp λ u y hm hy=>hy.eo t bU (mo (show AV.mn cs=false from hu) hm)⟩
 | fZ vs =>
  obtain⟨l,h1,h2⟩:=h;refine⟨l,h1,h2.imp λ u y hm hy=>?_⟩;have hu':=mo (show AV.mn vs=false from hu) hm;cases u with
  | any=>trivial
  | aQ v=>exact du.mono (G:=G) (G':=⟨G.S,nH,mu⟩) hy (λ _ h=>h) (λ b hb=>bU b (.inl hb))
  | aC i=>exact C1.eo (u := .aC i) t bU rfl hy
  | cP v=>exact C1.eo (u := .cP v) t bU rfl hy
  | agg cs =>
   obtain⟨l,h1,h2⟩:=hy;exact⟨l,h1,h2.imp λ u y hm hy=>hy.eo t bU (mo (show AV.mn cs=false from hu') hm)⟩
  | _=>exact hy.elim
 | any=>trivial
 | dN=>exact h
 | nil=>exact (C1.eo (u := .nil) t bU hu h).eQ
 | cP u=>exact (C1.eo (u := .cP u) t bU hu h).eQ
 | ptr i o=>exact (C1.eo (u := .ptr i o) t bU hu h).eQ
 | row i=>exact (C1.eo (u := .row i) t bU hu h).eQ
 | dS i k o=>exact (C1.eo (u := .dS i k o) t bU hu h).eQ
 | fn f=>exact (C1.eo (u := .fn f) t bU hu h).eQ
 | aC i=>exact (C1.eo (u := .aC i) t bU hu h).eQ
 | sub i k o z=>cases hu
 | mp i=>exact (C1.eo (u := .mp i) t bU hu h).eQ
 | ed i k o z=>exact (C1.eo (u := .ed i k o z) t bU hu h).eQ
 | gp v=>exact (C1.eo (u := .gp v) t bU hu h).eQ
 | cK f cs =>
  obtain⟨l,h1,h2⟩:=h;exact⟨l,h1,h2.imp λ u y hm hy=>hy.eo t bU (mo (show AV.mn cs=false from hu) hm)⟩
theorem bf.eo(h:bf c G sl n lk a w){nH:Nat->Value}{mu:Nat->List Nat}{I:Nat->Prop}{lk':Nat->Option aw}(t:Dj c G lk lk' w w' nH mu I)(hs:∀ i,(sl i).HM=false)(ID:∀ id cs,lk id=some (.box cs)->AV.mn cs=false) :
  bf c ⟨G.S,nH,mu⟩ sl n lk' a w':=by
 have pl:∀ id b,I id->b∈G.φ id->(c.w0.heap.size<=b\/c.X b)/\¬ G.S b/\b<w.heap.size/\∀ i o,lk i=some o->dx (G.η i)≠some b:=λ id b hi hb=>by
  obtain⟨τ,xs,_,_,_,_,h1,_⟩:=t.aC id hi;exact h.aN.pl id τ xs b h1 hb
 have VY:∀ b,b<w.heap.size->((c.w0.heap.size<=b\/c.X b)->False)->w'.heap[b]?=w.heap[b]?:=λ b hb hn=>t.heap b hb λ id hi gv=>hn (pl id b hi gv).1;have bU:∀ b,St c G.S b->w'.heap[b]?=w.heap[b]?:=λ b hb=>by
  rcases hb with hb|hb
  .exact t.heap b (h.dy b hb) λ id hi gv=>(pl id b hi gv).2.1 hb
  .exact VY b (a7F hb.1 h.aK.size) λ hn=>hn.elim (λ q=>by omega) hb.2.1
 have hblk:∀ id o b,lk id=some o->dx (G.η id)=some b->w'.heap[b]?=w.heap[b]?:=λ id o b ho hb =>
  t.heap b (h.place id o b ho hb).2.2 λ j hj gv=>(pl j b hj gv).2.2.2 id o ho hb
 have eI:∀ id b,dx (nH id)=some b->¬ I id/\dx (G.η id)=some b:=λ id b hb=>by
  by_cases hi:I id
  .obtain⟨_,_,_,_,_,_,_,_,_,h4,_⟩:=t.aC id hi;rw[h4] at hb;cases hb
  .rw[(t.same id hi).2.1] at hb;exact⟨hi,hb⟩
 have lg:∀ id τ xs b,lk' id=some (.aC τ xs)->b∈mu id->(∃ di aT cF,lk di=some (.aC aT cF)/\b∈G.φ di/\(¬ I id->di=id)/\(I id->I di))\/(I id/\rb c G lk w' b):=λ id τ xs b aO hb=>by
  by_cases hi:I id
  .rcases t.a2h id b hi hb with ⟨di,jy,cv⟩|QW
   .obtain⟨aT,cF,_,_,_,_,h1,_⟩:=t.aC di jy;exact .inl ⟨di,aT,cF,h1,cv,λ hn=>absurd hi hn,λ _=>jy⟩
   .exact .inr ⟨hi,QW⟩
  .obtain⟨h1,h2,h3⟩:=t.same id hi;rw[h1] at aO;rw[h3] at hb;exact .inl ⟨id,τ,xs,aO,hb,λ _=>rfl,λ jy=>absurd jy hi⟩
 exact {
  defers:=h.defers,size:=h.size
  aK:=h.aK.trans (Y:=λ b=>c.w0.heap.size<=b\/c.X b) ⟨t.os,t.tape,t.output,t.size,λ b hb hn=>VY b hb hn⟩ λ i hi hy=>hy.elim (λ q=>by omega) id
  iY:=h.iY,dZ:=h.dZ,sX:=h.sX
  dy:=λ b hb=>a7F (h.dy b hb) t.size
  aA:=λ i=>(h.aA i).eo t bU (hs i)
  aH:=λ id o aO=>by
   by_cases hi:I id
   .obtain⟨τ,xs,cF,_,_,_,_,h2,_⟩:=t.aC id hi;rw[h2] at aO;simp only[a7v] at aO;subst aO;trivial
   .obtain⟨h1,h2,h3⟩:=t.same id hi;rw[h1] at aO;have ho:=h.aH id o aO;cases o with
    | box cs =>
     obtain⟨b,l,ty,k1,k2,k3⟩:=ho;refine⟨b,l,ty,h2.trans k1,?_,k3.imp λ u y hm hy=>hy.eo t bU (mo (ID id cs aO) hm)⟩;rw[hblk id _ b aO (by rw[k1];rfl)];exact k2
    | row e τ xs =>
     obtain⟨l,k1,k2,k3⟩:=ho;refine⟨l,?_,cZ.aK (λ _ h=>h) (λ b hb=>bU b (.inl hb)) _ k2,k3⟩;rw[show (⟨G.S,nH,mu⟩:Gh).η id=G.η id from h2];exact DS k1 λ b hb=>hblk id _ b aO hb
    | aC τ xs=>trivial
    | map m =>
     obtain⟨b,es,clock,k1,k2,k3⟩:=ho;exact⟨b,es,clock,h2.trans k1,(hblk id _ b aO (by rw[k1];rfl)).trans k2,k3⟩
  place:=λ id o b aO hb=>by
   obtain⟨hi,hb⟩:=eI id b hb;rw[(t.same id hi).1] at aO;obtain⟨q1,q2,q3⟩:=h.place id o b aO hb;exact⟨q1,q2,a7F q3 t.size⟩
  apart:=λ id di o o' b aO Bg hb cv=>by
   obtain⟨hi,hb⟩:=eI id b hb;obtain⟨jy,cv⟩:=eI di b cv;rw[(t.same id hi).1] at aO;rw[(t.same di jy).1] at Bg;exact h.apart id di o o' b aO Bg hb cv
  aN:={
   tr:=λ id τ xs aO=>by
    by_cases hi:I id
    .obtain⟨τ0,xs0,cF,v,l,l',h1,h2,h3,h4,h5,h6⟩:=t.aC id hi;rw[h2] at aO;simp only[a7v,aw.aC.injEq] at aO;obtain⟨rfl,aO⟩:=aO;have aO:=b0k aO;subst aO;exact h5
    .obtain⟨h1,h2,h3⟩:=t.same id hi;rw[h1] at aO;rw[show (⟨G.S,nH,mu⟩:Gh).η id=G.η id from h2,show (⟨G.S,nH,mu⟩:Gh).φ id=G.φ id from h3];exact (h.aN.tr id τ xs aO).aK λ b hb=>t.heap b (h.aN.pl id τ xs b aO hb).2.2.1 λ j hj gv=>by
      obtain⟨aT,cF,_,_,_,_,k1,_⟩:=t.aC j hj;have:=h.aN.ap id j τ aT xs cF b aO k1 hb gv;subst this;exact hi hj
   nd:=λ id τ xs aO=>by
    by_cases hi:I id
    .obtain⟨_,_,_,_,_,_,_,_,_,_,_,h6⟩:=t.aC id hi;exact h6
    .obtain⟨h1,h2,h3⟩:=t.same id hi;rw[h1] at aO;rw[show (⟨G.S,nH,mu⟩:Gh).φ id=G.φ id from h3];exact h.aN.nd id τ xs aO
   pl:=λ id τ xs b aO hb=>by
    have hq:(c.w0.heap.size<=b\/c.X b)/\¬ G.S b/\b<w'.heap.size/\∀ i o,lk i=some o->dx (G.η i)≠some b:=by
     rcases lg id τ xs b aO hb with ⟨di,aT,cF,k1,k2,_⟩|⟨_,f1,f2,f3,f4,_⟩
     .obtain⟨f1,f2,f3,f4⟩:=h.aN.pl di aT cF b k1 k2;exact⟨f1,f2,a7F f3 t.size,f4⟩
     .exact⟨f1,f2,f3,f4⟩
    obtain⟨q1,q2,q3,q4⟩:=hq;refine⟨q1,q2,q3,λ i o cd qg=>?_⟩;obtain⟨hi,qg⟩:=eI i b qg;rw[(t.same i hi).1] at cd;exact q4 i o cd qg
   ap:=λ id di τ aT xs cF b aO Bg hb cv=>by
    by_cases hi:I id
    .by_cases jy:I di
     .exact t.apart id di b hi jy hb cv
     .rcases lg di aT cF b Bg cv with ⟨j',iP,kQ,m1,m2,m3,_⟩|⟨q,_⟩
      .rcases lg id τ xs b aO hb with ⟨j,Lp,Ov,k1,k2,_,k4⟩|⟨_,QW⟩
       .have:=h.aN.ap j j' _ _ _ _ b k1 m1 k2 m2;have e:=m3 jy;subst e this;exact absurd (k4 hi) jy
       .exact absurd m2 (QW.2.2.2.2 j' iP kQ m1)
      .exact absurd q jy
    .by_cases jy:I di
     .rcases lg id τ xs b aO hb with ⟨j,Lp,Ov,k1,k2,k3,_⟩|⟨q,_⟩
      .rcases lg di aT cF b Bg cv with ⟨j',iP,kQ,m1,m2,_,m4⟩|⟨_,QW⟩
       .have:=h.aN.ap j j' _ _ _ _ b k1 m1 k2 m2;have e:=k3 hi;subst e this;exact absurd (m4 jy) hi
       .exact absurd k2 (QW.2.2.2.2 j Lp Ov k1)
      .exact absurd q hi
     .rcases lg id τ xs b aO hb with ⟨j,Lp,Ov,k1,k2,k3,_⟩|⟨q,_⟩
      .rcases lg di aT cF b Bg cv with ⟨j',iP,kQ,m1,m2,m3,_⟩|⟨q,_⟩
       .have:=h.aN.ap j j' _ _ _ _ b k1 m1 k2 m2;exact (k3 hi).symm.trans (this.trans (m3 jy))
       .exact absurd q jy
      .exact absurd q hi }
  root:=λ id v hr ht=>by
   by_cases hi:I id
   .obtain⟨τ,xs,cF,v0,l,l',k1,k2,k3,k4,_⟩:=t.aC id hi;obtain⟨l2,h2⟩:=h.root id v hr (by rw[k1];rfl);rw[k3] at h2;simp only[a8Z,b0X,a7A] at h2;obtain⟨rfl,_⟩:=h2;exact⟨l',k4⟩
   .obtain⟨h1,h2,_⟩:=t.same id hi;rw[h1] at ht;rw[show (⟨G.S,nH,mu⟩:Gh).η id=G.η id from h2];exact h.root id v hr ht
  fE:=h.fE
  dq:=λ id v hr ht=>by
   by_cases hi:I id
   .obtain⟨τ,xs,cF,v0,l,l',k1,k2,k3,k4,_⟩:=t.aC id hi;rw[k2] at ht;cases ht
   .obtain⟨h1,h2,_⟩:=t.same id hi;rw[h1] at ht;rw[show (⟨G.S,nH,mu⟩:Gh).η id=G.η id from h2];exact h.dq id v hr ht
  eF:=h.eF }
theorem bf.NI(h:bf c G sl n lk a w){d:Nat}(hd:lk d=none):(∀ i,(sl i).refs d=false)/\∀ i o,lk i=some o->o.refs d=false:=by
 have c1:∀ (v:AV) (x:Value),C1 c G lk w v x->v.refs d=true->False:=λ v x hv hr=>by
  have gZ:∀ i,Nat.beq i d=true->gH (lk i)=false/\isRow (lk i)=false/\cU (lk i)=false/\∀ e τ xs,lk i≠some (.row e τ xs):=λ i hi=>by
   have:=a7w hi;subst this;rw[hd];exact⟨rfl,rfl,rfl,λ _ _ _=>by simp⟩
  cases v with
  | ptr i o=>obtain⟨_,_,_,h3⟩:=hv;rw[(gZ i hr).1] at h3;cases h3
  | row i=>obtain⟨_,h3,_⟩:=hv;rw[(gZ i hr).2.1] at h3;cases h3
  | dS i k o=>obtain⟨_,_,_,_,_,_,_,h3,_⟩:=hv;exact (gZ i hr).2.2.2 _ _ _ h3
  | aC i=>have h3:=hv.1;rw[(gZ i hr).2.2.1] at h3;cases h3
  | sub i k o z=>have h3:=hv.1;rw[(gZ i hr).2.2.1] at h3;cases h3
  | ed i k o z=>have h3:=hv.1;rw[(gZ i hr).2.2.1] at h3;cases h3
  | mp i =>
   have h3:=hv.2.1;have:=a7w (show Nat.beq i d=true from hr);subst this;rw[hd] at h3;cases h3
  | agg cs=>exact hv
  | fZ cs=>exact hv
  | cK f cs=>exact hv
  | _=>cases hr
 have cL:∀ (cs:List AV) (l:List Value),aM (C1 c G lk w) cs l->AV.eZ d cs=true->False:=by
  intro cs;induction cs with
  | nil=>intro l _ hr;cases hr
  | cons v r ih =>
   intro l hl hr;match l,hl with
   | x::l,hl =>
    simp only[AV.eZ] at hr;split at hr
    .rename_i hv;exact c1 v x hl.1 hv
    .exact ih l hl.2 hr
 refine⟨λ i=>?_,λ i o ho=>?_⟩
 .cases hr:(
        sl i).refs d with
  | false=>rfl
  | true =>
   have hv:=h.aA i;revert hv hr;generalize a.tmps.getD i undef=x;cases sl i with
   | aQ u=>intro hr;cases hr
   | agg cs =>
    intro hr hv;obtain⟨l,_,hl⟩:=hv;exact (cL cs l hl hr).elim
   | fZ vs =>
    intro hr hv;obtain⟨l,_,hl⟩:=hv;have:∀ (
         vs:List AV) (l:List Value),aM (TR c G lk w) vs l->AV.eZ d vs=true->False:=by
     intro vs;induction vs with
     | nil=>intro l _ hr;cases hr
     | cons v r ih =>
      intro l hl hr;match l,hl with
      | x::l,hl =>
       simp only[AV.eZ] at hr;split at hr
       .rename_i hv;have h1:=hl.1;cases v with
        | aC i=>exact c1 (.aC i) x h1 hv
        | agg cs =>
         obtain⟨l',_,mg⟩:=h1;exact cL cs l' mg hv
        | aQ u=>cases hv
        | cP u=>cases hv
        | any=>cases hv
        | _=>exact h1
       .exact ih l hl.2 hr
    exact (this vs l hl hr).elim
   | cK f vs =>
    intro hr hv;obtain⟨l,_,hl⟩:=hv;have:∀ (vs:List AV) (l:List Value),aM (CR c G lk w) vs l->AV.eZ d vs=true->False:=by
     intro vs;induction vs with
     | nil=>intro l _ hr;cases hr
     | cons v r ih =>
      intro l hl hr;match l,hl with
      | x::l,hl =>
       simp only[AV.eZ] at hr;split at hr
       .rename_i hv;rcases hl.1.inv with ⟨u,rfl,_⟩|⟨cs,l',rfl,_,mg⟩|h1
        .cases hv
        .exact cL cs l' mg hv
        .exact c1 _ x h1 hv
       .exact ih l hl.2 hr
    exact (this vs l hl hr).elim
   | any=>intro hr;cases hr
   | dN=>intro hr;cases hr
   | nil=>intro hr;cases hr
   | cP u=>intro hr;cases hr
   | fn f=>intro hr;cases hr
   | gp v=>intro hr;cases hr
   | ptr i o=>intro hr hv;exact (c1 (.ptr i o) x hv hr).elim
   | row i=>intro hr hv;exact (c1 (.row i) x hv hr).elim
   | dS i k o=>intro hr hv;exact (c1 (.dS i k o) x hv hr).elim
   | aC i=>intro hr hv;exact (c1 (.aC i) x hv hr).elim
   | sub i k o z=>intro hr hv;exact (c1 (.sub i k o z) x hv hr).elim
   | ed i k o z=>intro hr hv;exact (c1 (.ed i k o z) x hv hr).elim
   | mp i=>intro hr hv;exact (c1 (.mp i) x hv hr).elim
 .cases hr:o.refs d with
  | false=>rfl
  | true =>
   cases o with
   | row e τ xs=>cases hr
   | aC τ xs=>cases hr
   | map m=>cases hr
   | box cs =>
    obtain⟨b,l,t,_,_,k3⟩:=h.aH i _ ho;exact (cL cs l k3 hr).elim
structure Ext(G:Gh)(lk:Nat->Option aw)(G':Gh)(lk':Nat->Option aw):Prop where
 S:G'.S=G.S
 Xk:∀ i o,lk i=some o->lk' i=some o/\G'.η i=G.η i/\G'.φ i=G.φ i
theorem Ext.refl(G:Gh)(lk:Nat->Option aw):Ext G lk G lk:=⟨rfl,λ _ _ h=>⟨h,rfl,rfl⟩⟩
theorem Ext.trans{G1 G2 G3:Gh}{l1 l2 l3:Nat->Option aw}(h:Ext G1 l1 G2 l2)(k:Ext G2 l2 G3 l3):Ext G1 l1 G3 l3 :=
 ⟨k.S.trans h.S,λ i o ho=>by
  obtain⟨a1,a2,a3⟩:=h.Xk i o ho;obtain⟨b1,b2,b3⟩:=k.Xk i o a1;exact⟨b1,b2.trans a2,b3.trans a3⟩⟩
theorem C1.ext{G':Gh}{lk':Nat->Option aw}(e:Ext G lk G' lk'){v:AV}{x:Value}(h:C1 c G lk w v x):C1 c G' lk' w v x:=by
 refine h.mono (λ id aO=>?_) (λ b hb=>by rw[e.S];exact hb) (λ _ _=>rfl);have dm:lk id≠none:=λ hn=>by
  cases v with
  | ptr i o=>have:=a7w (show Nat.beq i id=true from aO);subst this;obtain⟨_,_,_,h3⟩:=h;rw[hn] at h3;cases h3
  | row i=>have:=a7w (show Nat.beq i id=true from aO);subst this;obtain⟨_,h3,_⟩:=h;rw[hn] at h3;cases h3
  | dS i k o=>have:=a7w (show Nat.beq i id=true from aO);subst this;obtain⟨_,_,_,_,_,_,_,h3,_⟩:=h;rw[hn] at h3;cases h3
  | aC i=>have:=a7w (show Nat.beq i id=true from aO);subst this;have h3:=h.1;rw[hn] at h3;cases h3
  | sub i k o z=>have:=a7w (show Nat.beq i id=true from aO);subst this;have h3:=h.1;rw[hn] at h3;cases h3
  | ed i k o z=>have:=a7w (show Nat.beq i id=true from aO);subst this;have h3:=h.1;rw[hn] at h3;cases h3
  | mp i=>have:=a7w (show Nat.beq i id=true from aO);subst this;have h3:=h.2.1;rw[hn] at h3;cases h3
  | agg cs=>exact h
  | fZ cs=>exact h
  | cK f cs=>exact h
  | _=>cases aO
 match hl:lk id,dm with
 | some o,_ =>
  obtain⟨h1,h2,_⟩:=e.Xk id o hl;rw[h1];exact⟨eg.refl _,h2⟩
def Fr(c:Ctx)(G:Gh)(lk:Nat->Option aw)(w:World)(fp:List Nat):Prop :=
 ∀ b∈fp,(c.w0.heap.size<=b\/c.X b)/\¬ G.S b/\b<w.heap.size/\(∀ i o,lk i=some o->dx (G.η i)≠some b)/\∀ j τ xs,lk j=some (.aC τ xs)->b∉G.φ j
def fS(news:List (Nat×aw))(lk:Nat->Option aw)(i:Nat):Option aw:=match ag news i with
 | some o=>some o
 | none=>lk i
theorem Zx(lk:Nat->Option aw):fS [] lk=lk:=rfl
theorem Xh(id:Nat)(o:aw)(r:List (Nat×aw))(lk:Nat->Option aw)(hr:ag r id=none):fS r (λ i=>if i=id then some o else lk i)=fS ((id,o)::r) lk:=by
 funext i;unfold fS;rw[dj];by_cases hi:i=id
 .subst hi;rw[hr];simp
 .simp[hi]
theorem Ka:∀ (r r':List (Nat×aw)) (lk:Nat->Option aw),fS (r++r') lk=fS r (fS r' lk)
 | [],r',lk=>rfl
 | (id,o)::r,r',lk=>by
  funext i;have:=congrFun (Ka r r' lk) i;unfold fS at this ⊢;rw[List.cons_append,dj,dj];by_cases hi:i=id
  .simp[hi]
  .simpa [hi] using this
theorem gL.UY{τ:Ty}{xs:List τ.den}{x:Value}{fp:List Nat}(h:Ow w (.slice τ.size (xs.map τ.aI)) [x] fp):∃ l,gL w (.tuple (x::l).toArray) τ xs fp/\∃ a n m,x = .slice a n m:=by
 obtain⟨a',cap,h1,h2,h3,h4,h5⟩:=h;simp only[a7A,a7W,a8n] at h1 h2 h4;subst h1;rcases h5 with ⟨hx,ha,hf⟩|⟨b,f,l,t,ha,hf,k1,k2⟩
 .refine⟨[],⟨_,[],a',cap,rfl,rfl,h2,h3,h4, .inl ⟨?_,ha,hf⟩⟩,_,_,_,rfl⟩;simpa using hx
 .exact⟨l,⟨_,l,a',cap,rfl,rfl,h2,h3,h4, .inr ⟨b,f,t,ha,hf,k1,k2⟩⟩,_,_,_,rfl⟩
theorem Ow.UZ{η:Value}{τ:Ty}{xs:List τ.den}{fp:List Nat}(h:gL w η τ xs fp){x:Value}{l:List Value}(hx:η = .tuple (x::l).toArray):Ow w (.slice τ.size (xs.map τ.aI)) [x] fp:=by
 obtain⟨v,l',a',cap,h1,h2,h3,h4,h5,h6⟩:=h;rw[hx] at h1;simp only[Value.tuple.injEq,List.toArray_inj,List.cons.injEq] at h1;obtain⟨rfl,rfl⟩:=h1;refine⟨a',cap,by simp[h2],by simpa using h3,h4,by simpa using h5,?_⟩;rcases h6 with ⟨rfl,q1,q2⟩|⟨b,f,t,q1,q2,q3,q4⟩
 .exact .inl ⟨rfl,q1,q2⟩
 .exact .inr ⟨b,f,l,t,q1,q2,q3,q4⟩
theorem gb:∀ {l:List (Nat×aw)} {id:Nat} {o:aw},ag l id=some o->(id,o)∈l
 | (k,p)::r,id,o,h=>by
  simp only[ag] at h;split at h
  .rename_i hk;have hk:=a7w hk;simp only[a7v] at h;subst hk h;simp
  .exact a8y _ (gb h)
theorem bf.XX(h:bf c G sl n lk a w){u:TV}(hu:u.τ.agg=false){x:Value}{fp:List Nat}{id:Nat}(hO:Ow w u.aI [x] fp)(cX:fp.Nodup)(hF:Fr c G lk w fp)(aO:∀ p∈eP id u,lk p.1=none)(hR:c.R id=none) :
  ∃ G',bf c G' sl n (fS (eP id u) lk) a w/\Ext G lk G' (fS (eP id u) lk)/\C1 c G' (fS (eP id u) lk) w (lA id u) x /\
   ∀ fq,Fr c G lk w fq->(∀ b∈fq,b∉fp)->Fr c G' (fS (eP id u) lk) w fq:=by
 have pj:(eP id u=[]/\lA id u = .aQ u)->∃ G',bf c G' sl n (fS (eP id u) lk) a w/\Ext G lk G' (fS (eP id u) lk)/\C1 c G' (fS (eP id u) lk) w (lA id u) x /\
   ∀ fq,Fr c G lk w fq->(∀ b∈fq,b∉fp)->Fr c G' (fS (eP id u) lk) w fq:=by
  rintro⟨e1,e2⟩;rw[e1,e2];exact⟨G,h,Ext.refl _ _,⟨hu,hO.rd (S:=λ b=>b∈fp) _ (λ _ h=>h) |> λ hr=>by
   obtain⟨τ,y⟩:=u;cases τ with
   | slice t=>simp[eP] at e1
   | mv t=>simp[lA] at e2
   | ptr=>exact hr
   | st s=>cases hu
   | int k=>exact hr
   | bool=>exact hr
   | str=>exact hr⟩,λ fq hq _=>hq⟩
 obtain⟨τ,y⟩:=u;cases τ with
 | mv t=>exact⟨G,h,Ext.refl _ _,af,λ fq hq _=>hq⟩
 | slice t =>
  obtain⟨l,hT,wa⟩:=gL.UY (τ:=t) (xs:=y) hO;have hn:lk id=none:=aO (id, .aC t y) (by simp[eP]);obtain⟨OM,ub⟩:=h.NI hn;have hI:=h.NF id t y _ fp hn OM ub hR hT cX hF;have bP:fS (eP id ⟨.slice t,y⟩) lk=λ i=>if i=id then some (.aC t y) else lk i:=by
   rw[<-Zx (λ i=>if i=id then some (aw.aC t y) else lk i),Xh id _ [] lk rfl];rfl
  rw[bP];refine⟨_,hI,⟨rfl,λ i o ho=>?_⟩,⟨by simp[cU],l,by simp,wa⟩,λ fq hq uG b hb=>?_⟩
  .have hi:i≠id:=λ e=>by subst e;rw[hn] at ho;cases ho
   simp[hi,ho]
  .obtain⟨q1,q2,q3,q4,q5⟩:=hq b hb;refine⟨q1,q2,q3,λ i o cd e=>?_,λ j τ xs hj=>?_⟩
   .by_cases hi:i=id
    .simp only[a7E hi] at e;cases e
    .simp only[a7z hi] at cd e;exact q4 i o cd e
   .by_cases hi:j=id
    .simp only[a7E hi];exact uG b hb
    .simp only[a7z hi] at hj ⊢;exact q5 j τ xs hj
 | st s=>cases hu
 | ptr=>exact pj ⟨rfl,rfl⟩
 | int k=>exact pj ⟨rfl,rfl⟩
 | bool=>exact pj ⟨rfl,rfl⟩
 | str=>exact pj ⟨rfl,rfl⟩
theorem Kc{id:Nat}{u:TV}{p:Nat×aw}(h:p∈eP id u):p.1=id:=by
 obtain⟨τ,y⟩:=u;cases τ<;>simp[eP] at h;rw[h]
theorem Nu{r:List (Nat×aw)}{i:Nat}(h:∀ p∈r,p.1≠i):ag r i=none:=by
 induction r with
 | nil=>rfl
 | cons p r ih =>
  obtain⟨k,o⟩:=p;rw[dj,a7z (λ e=>h (k,o) (by simp) e.symm)];exact ih λ q hq=>h q (by simp[hq])
theorem bf.Cd:∀ {us:List TV} {cs:List Value} {fp:List Nat} {id:Nat} {G:Gh} {lk:Nat->Option aw},bf c G sl n lk a w->(∀ u∈us,u.τ.agg=false)->cW w (us.map TV.aI) cs fp->fp.Nodup->Fr c G lk w fp ->
  (∀ p∈bT id us,lk p.1=none)->((bT id us).map (·.1)).Nodup->(∀ j,id<=j->c.R j=none) ->
  ∃ G' lk',(∀ i,lk' i=fS (bT id us) lk i)/\bf c G' sl n lk' a w/\Ext G lk G' lk'/\aM (C1 c G' lk' w) (dG id us) cs/\∀ fq,Fr c G lk w fq->(∀ b∈fq,b∉fp)->Fr c G' lk' w fq
 | [],cs,fp,id,G,lk,h,_,hO,_,_,_,_,_=>by
  obtain⟨rfl,rfl⟩:=hO;exact⟨G,lk,λ _=>rfl,h,Ext.refl _ _,af,λ fq hq _=>hq⟩
 | u::us,cs,fp,id,G,lk,h,hu,hO,cX,hF,aO,nL,hR=>by
  obtain⟨v,r,f1,f2,rfl,rfl,h1,h2⟩:=hO;rw[a7Q] at cX;obtain⟨ZJ,ZK,ZL⟩:=cX;simp only[bT,a8R] at nL;rw[a7Q] at nL;obtain⟨d1,d2,d3⟩:=nL;obtain⟨G1,i1,e1,c1,Ui⟩:=h.XX (id:=id) (hu u (by simp)) h1 ZJ (λ b hb=>hF b (by simp[hb])) (λ p hp=>aO p (by simp[bT,hp])) (hR id (a7P _));have dm:∀ p∈bT (id+1) us,ag (eP id u) p.1=none:=λ p hp=>Nu λ q hq e=>d3 q.1 (a7B.2 ⟨q,hq,rfl⟩) p.1 (a7B.2 ⟨p,hp,rfl⟩) e;obtain⟨G2,lk2,k1,k2,k3,k4,k5⟩:=bf.Cd (us:=us) (cs:=r) (fp:=f2) (id:=id+1) i1 (λ u hu'=>hu u (by simp[hu'])) h2 ZK
   (Ui f2 (λ b hb=>hF b (by simp[hb])) (λ b hb cv=>ZL b cv b hb rfl)) (λ p hp=>by unfold fS;rw[dm p hp];exact aO p (by simp[bT,hp])) d2 (λ j hj=>hR j (by omega))
  refine⟨G2,lk2,λ i=>?_,k2,e1.trans k3,⟨c1.ext k3,k4⟩,λ fq hq uG=>k5 fq (Ui fq hq λ b hb cv=>uG b hb (by simp[cv])) λ b hb cv=>uG b hb (by simp[cv])⟩;rw[k1 i];simp only[bT];unfold fS;have a5v:∀ (r r':List (Nat×aw)) (j:Nat),ag (r++r') j=match ag r j with|some o=>some o|none=>ag r' j:=by
   intro r r' j;induction r with
   | nil=>rfl
   | cons p r ih =>
    obtain⟨k,o⟩:=p;rw[a8p,dj,dj];by_cases hj:j=k
    .simp[hj]
    .simpa [hj] using ih
  rw[a5v];cases hx:ag (bT (id+1) us) i with
  | none=>simp only[];cases ag (eP id u) i<;>rfl
  | some o =>
   simp only[];have hm:=gb hx;rw[dm _ hm]
theorem LY(s:aJ)(y:s.den):∀ u∈s.cells y,u.τ.agg=false:=λ u hu=>by
 have:=aJ.mC s y u hu;obtain⟨aT,z'⟩:=u;cases aT with
 | st s'=>simp[TV.aI,Ty.aI,aJ.bR,D.leaf] at this
 | _=>rfl
theorem TR.ext{G':Gh}{lk':Nat->Option aw}(e:Ext G lk G' lk'){v:AV}{x:Value}(h:TR c G lk w v x):TR c G' lk' w v x:=by
 cases v with
 | any=>trivial
 | aQ v=>exact du.mono (G:=G) (G':=G') h (λ b hb=>by rw[e.S];exact hb) (λ _ _=>rfl)
 | aC i=>exact C1.ext (c:=c) (w:=w) (v := .aC i) e h
 | cP v=>exact C1.ext (c:=c) (w:=w) (v := .cP v) e h
 | agg cs =>
  obtain⟨l,h1,h2⟩:=h;exact⟨l,h1,h2.imp λ u y _ hy=>hy.ext e⟩
 | _=>exact h.elim
theorem TR.eQ{v:AV}{x:Value}(h:TR c G lk w v x):VR c G lk w v x:=by
 cases v with
 | any=>trivial
 | aQ v=>exact h
 | aC i=>exact h
 | cP v=>exact h
 | agg cs=>exact h
 | _=>exact h.elim
theorem C1.a6p{id:Nat}{u:TV}{x:Value}(h:C1 c G lk w (lA id u) x)(hu:u.τ.agg=false):TR c G lk w (lA id u) x:=by
 obtain⟨τ,y⟩:=u;cases τ with
 | slice t=>exact h
 | mv t=>exact h
 | ptr=>exact h.2
 | st s=>cases hu
 | int k=>exact h.2
 | bool=>exact h.2
 | str=>exact h.2
theorem bf.Lq{v:TV}{x:Value}{fp:List Nat}{id:Nat}{G:Gh}{lk:Nat->Option aw}(h:bf c G sl n lk a w)(hO:vL w v x fp)(cX:fp.Nodup)(hF:Fr c G lk w fp)
  (aO:∀ p∈bT id v.cells,lk p.1=none) (nL:((bT id v.cells).map (·.1)).Nodup) (hR:∀ j,id<=j->c.R j=none) :
  ∃ G' lk',(∀ i,lk' i=fS (bT id v.cells) lk i)/\bf c G' sl n lk' a w/\Ext G lk G' lk'/\TR c G' lk' w (gR id v) x/\∀ fq,Fr c G lk w fq->(∀ b∈fq,b∉fp)->Fr c G' lk' w fq:=by
 have one:v.τ.agg=false->v.cells=[v]->gR id v=lA id v->Ow w v.aI [x] fp->∃ G' lk',(∀ i,lk' i=fS (bT id v.cells) lk i)/\bf c G' sl n lk' a w/\Ext G lk G' lk'/\TR c G' lk' w (gR id v) x/\∀ fq,Fr c G lk w fq->(∀ b∈fq,b∉fp)->Fr c G' lk' w fq:=by
  intro hv hc hov hO;rw[hc] at aO nL;obtain⟨G',lk',k1,k2,k3,k4,k5⟩:=h.Cd (us:=[v]) (cs:=[x]) (fp:=fp) (by simpa using hv) ⟨x,[],fp,[],rfl,by simp,hO,rfl,rfl⟩ cX hF aO nL hR;rw[hc,hov];exact⟨G',lk',k1,k2,k3,C1.a6p k4.1 hv,k5⟩
 obtain⟨τ,y⟩:=v;cases τ with
 | st s =>
  obtain⟨cs,rfl,hO⟩:=hO;rw[aJ.bR] at hO;obtain⟨G',lk',k1,k2,k3,k4,k5⟩:=h.Cd (us:=s.cells y) (cs:=cs) (fp:=fp) (LY s y) hO cX hF aO nL hR;exact⟨G',lk',k1,k2,k3,⟨cs,rfl,k4⟩,k5⟩
 | slice t=>exact one rfl rfl rfl hO
 | mv t=>exact one rfl rfl rfl hO
 | ptr=>exact one rfl rfl rfl hO
 | int k=>exact one rfl rfl rfl hO
 | bool=>exact one rfl rfl rfl hO
 | str=>exact one rfl rfl rfl hO
theorem Xg{r r':List (Nat×aw)}(hd:∀ p∈r',ag r p.1=none)(lk:Nat->Option aw)(i:Nat):fS r' (fS r lk) i=fS (r++r') lk i:=by
 rw[Ka];unfold fS;cases hx:ag r' i with
 | none=>rfl
 | some o =>
  have:=hd _ (gb hx);simp only[] at this ⊢;rw[this]
theorem bf.FP:∀ {vs:List TV} {xs:List Value} {fp:List Nat} {id:Nat} {G:Gh} {lk:Nat->Option aw},bf c G sl n lk a w->FJ w vs xs fp->fp.Nodup->Fr c G lk w fp ->
  (∀ p∈bc id vs,lk p.1=none)->((bc id vs).map (·.1)).Nodup->(∀ j,id<=j->c.R j=none) ->
  ∃ G' lk',(∀ i,lk' i=fS (bc id vs) lk i)/\bf c G' sl n lk' a w/\Ext G lk G' lk'/\aM (TR c G' lk' w) (Hu id vs) xs/\∀ fq,Fr c G lk w fq->(∀ b∈fq,b∉fp)->Fr c G' lk' w fq
 | [],[],fp,id,G,lk,h,_,_,_,_,_,_=>⟨G,lk,λ _=>rfl,h,Ext.refl _ _,af,λ fq hq _=>hq⟩
 | v::vs,x::xs,fp,id,G,lk,h,hO,cX,hF,aO,nL,hR=>by
  obtain⟨f1,f2,rfl,h1,h2⟩:=hO;rw[a7Q] at cX;obtain⟨ZJ,ZK,ZL⟩:=cX;simp only[bc,a8R] at nL;rw[a7Q] at nL;obtain⟨d1,d2,d3⟩:=nL;obtain⟨G1,I8,l1,i1,e1,c1,Ui⟩:=h.Lq (id:=id) h1 ZJ (λ b hb=>hF b (by simp[hb])) (λ p hp=>aO p (by simp[bc,hp])) d1 hR;have dm:∀ p∈bc (id+20) vs,ag (bT id v.cells) p.1=none:=λ p hp=>Nu λ q hq e=>d3 q.1 (a7B.2 ⟨q,hq,rfl⟩) p.1 (a7B.2 ⟨p,hp,rfl⟩) e;obtain⟨G2,lk2,k1,k2,k3,k4,k5⟩:=bf.FP (vs:=vs) (xs:=xs) (fp:=f2) (id:=id+20) i1 h2 ZK
   (Ui f2 (λ b hb=>hF b (by simp[hb])) (λ b hb cv=>ZL b cv b hb rfl)) (λ p hp=>by rw[l1 p.1];unfold fS;rw[dm p hp];exact aO p (by simp[bc,hp])) d2 (λ j hj=>hR j (by omega))
  refine⟨G2,lk2,λ i=>?_,k2,e1.trans k3,⟨c1.ext k3,k4⟩,λ fq hq uG=>k5 fq (Ui fq hq λ b hb cv=>uG b hb (by simp[cv])) λ b hb cv=>uG b hb (by simp[cv])⟩;rw[k1 i,show I8=fS (bT id v.cells) lk from funext l1];exact Xg dm lk i
 | [],_::_,_,_,_,_,_,hO,_,_,_,_,_=>hO.elim
 | _::_,[],_,_,_,_,_,hO,_,_,_,_,_=>hO.elim
theorem oq(r r':List (Nat×aw))(i:Nat):ag (r++r') i=fS r (ag r') i:=by
 unfold fS;induction r with
 | nil=>rfl
 | cons p r ih =>
  obtain⟨k,o⟩:=p;rw[a8p,dj,dj];by_cases hj:i=k
  .simp[hj]
  .simpa [hj] using ih
theorem Fo{id:Nat}{res:List TV}{x:Value}{fp:List Nat}(h:H3 w res x fp):∃ xs,FJ w res xs fp/\∀ (G:Gh) (lk:Nat->Option aw),aM (TR c G lk w) (Hu id res) xs->VR c G lk w (iM id res) x:=by
 match res,h with
 | [v],h=>exact⟨[x],⟨fp,[],by simp,h,rfl⟩,λ G lk ha=>ha.1.eQ⟩
 | [],h =>
  obtain⟨l,h1,h2⟩:=h;exact⟨l,h2,λ G lk ha=>⟨l,h1,ha⟩⟩
 | v::u::r,h =>
  obtain⟨l,h1,h2⟩:=h;exact⟨l,h2,λ G lk ha=>⟨l,h1,ha⟩⟩
end
section
variable {c:Ctx} {G:Gh} {s:ah} {a:Act} {w w':World}
theorem dh:∀ {l:List Nat},nodupB l=true->l.Nodup
 | [],_=>a8F
 | a::r,h=>by
  simp only[nodupB] at h;split at h
  .cases h
  .rename_i hc;exact List.nodup_cons.2 ⟨by simpa using hc,dh h⟩
theorem NM(hE:bo c.P c.E)(h:Inv c G s a w){o:Oper}{f:FuncId}{Ts:List TypeId}{vs:List AV}{xs:List Value}{Z9:List Arg}{pre:Vc}{res:List TV}{d b:Nat}{Q:Exit->Act->World->Prop}
  (has:jT c.E s.ag Ts vs=some Z9) (jJ:aM (VR c G s.ag w) vs xs) (hc:c.E.Hp f Z9=some (pre,res)) (M0:pre.ok) (hd:o.dst=some d)
  (qh:∀ p∈bc b res,s.ag p.1=none) (nL:((bc b res).map (·.1)).Nodup) (hR:100<=b)
  (cC:iQ c.P f->(execOp a.eval o).run c.P w = .ok (.enter f xs.toArray) w) :
  o.wp c.P a w (λ a' w'=>∃ G',Inv c G' { aA:=s.aA.set d (iM b res),aH:=bc b res++s.aH } a' w') Q:=by
 obtain⟨oi,jf⟩:=hE.Hp f Z9 pre res hc M0;unfold Oper.wp;rw[cC oi];simp only[Oper.upon];refine (jf w (SX G s.ag) xs [] ?_ (.NK (gh hE h (λ _ _ h=>h) (λ _ h => .inl h) (λ τ v x y h1 h2=>uq h.aN h.aH (λ _ _ h=>h) h1 h2) has jJ)) (.inl rfl) List.nodup_nil (by simp)).mono ?_
 .exact h.Tx
 .rintro e w' ⟨x,fp,rfl,hk,hO,cX,lg⟩;have hk:bJ (λ _=>False) w w':=⟨hk.os,hk.tape,hk.output,hk.size,λ b hb _=>hk.block b hb (by simp)⟩;have lg:∀ b∈fp,w.heap.size<=b/\b<w'.heap.size:=λ b hb=>(lg b hb).resolve_left (by simp);have hI:=bf.grow h hk (S':=G.S) (λ _ _=>a9Q) (λ b hb=>a7F (h.dy b hb) hk.size);obtain⟨ys,qf,M5⟩:=Fo (c:=c) (id:=b) hO;have hF:Fr c ⟨G.S,G.η,G.φ⟩ s.ag w' fp:=λ b hb=>by
   obtain⟨h1,h2⟩:=lg b hb;have:=h.aK.size;refine⟨.inl (by omega),λ hs=>?_,h2,λ i o' hi qg=>?_,λ j τ zs hj lb=>?_⟩
   .have:=h.dy b hs;omega
   .have:=(h.place i o' b hi qg).2.2;omega
   .have:=(h.aN.pl j τ zs b hj lb).2.2.1;omega
  obtain⟨G',lk',k1,k2,k3,k4,_⟩:=hI.FP (id:=b) qf cX hF qh nL (λ j hj=>by
   cases hr:c.R j with
   | none=>rfl
   | some v=>have:=h.fE j v hr;omega)
  refine⟨G',?_⟩;have bP:ah.ag { aA:=s.aA.set d (iM b res),aH:=bc b res++s.aH }=lk':=by
   funext i;rw[k1 i];exact oq _ _ i
  unfold Inv;rw[bP,hd,show ah.sl { aA:=s.aA.set d (iM b res),aH:=bc b res++s.aH }=iz s.aA.length s.sl (some d) (iM b res) from nz s.aA d _ _,
   show ({ aA:=s.aA.set d (iM b res),aH:=bc b res++s.aH }:ah).aA.length=s.aA.length from by simp]
  exact bf.put k2 (M5 G' lk' k4)
end
theorem eX{α:Type}:∀ {l:List (Nat×α)} {id:Nat} {o:α},ag l id=some o->(id,o)∈l
 | (k,p)::r,id,o,h=>by
  simp only[ag] at h;split at h
  .rename_i hk;have hk:=a7w hk;simp only[a7v] at h;subst hk h;simp
  .exact a8y _ (eX h)
theorem ru{α:Type}:∀ {l:List (Nat×α)} {id:Nat} {o:α},(l.map (·.1)).Nodup->(id,o)∈l->ag l id=some o
 | (k,p)::r,id,o,hd,h=>by
  simp only[a8d,a8b] at hd;simp only[ag];rcases a7J.1 h with e|h
  .simp only[a7x] at e;obtain⟨rfl,rfl⟩:=e;simp
  .split
   .rename_i hk;have hk:=a7w hk;subst hk;exact absurd (a7B.2 ⟨_,h,rfl⟩) hd.1
   .exact ru hd.2 h
section
variable {c:Ctx} {G:Gh} {sl:Nat->AV} {n:Nat} {lk:Nat->Option aw} {a:Act} {w w':World}
abbrev TE:=Value×List Nat×aw
def B7(A:List (Nat×TE))(G:Gh)(i:Nat):Value:=match ag A i with
 | some e=>e.1
 | none=>G.η i
def vH(A:List (Nat×TE))(G:Gh)(i:Nat):List Nat:=match ag A i with
 | some e=>e.2.1
 | none=>G.φ i
def TB(A:List (Nat×TE))(lk:Nat->Option aw)(i:Nat):Option aw:=match ag A i with
 | some e=>some e.2.2
 | none=>lk i
structure XV(G:Gh)(lk:Nat->Option aw)(w':World)(id:Nat)(e:TE):Prop where
 ex:∃ τ xs cF v l l',lk id=some (.aC τ xs)/\e.2.2 = .aC τ cF/\G.η id = .tuple (v::l).toArray/\e.1 = .tuple (v::l').toArray/\gL w' e.1 τ cF e.2.1/\e.2.1.Nodup
theorem Dj.ofList{A:List (Nat×TE)}(hA:∀ p∈A,XV G lk w' p.1 p.2)(Uz:∀ p∈A,∀ b∈p.2.2.1,(∃ q∈A,b∈G.φ q.1)\/rb c G lk w' b)(QP:∀ p∈A,∀ q∈A,∀ b∈p.2.2.1,b∈q.2.2.1->p.1=q.1)(cX:(A.map (·.1)).Nodup)
  (a3x:∀ b,b<w.heap.size->(∀ p∈A,b∉G.φ p.1)->w'.heap[b]?=w.heap[b]?) (hos:w'.os=w.os) (UI:w'.tape=w.tape) (PR:w'.output=w.output) (vZ:w.heap.size<=w'.heap.size) :
  Dj c G lk (TB A lk) w w' (B7 A G) (vH A G) (λ i=>∃ e,ag A i=some e) where
 same id hi:=by
  have:ag A id=none:=by
   cases hx:ag A id with
   | none=>rfl
   | some e=>exact absurd ⟨e,hx⟩ hi
  simp[TB,B7,vH,this]
 aC id:=by
  rintro⟨e,he⟩;obtain⟨τ,xs,cF,v,l,l',h1,h2,h3,h4,h5,h6⟩:=(hA _ (eX he)).ex;refine⟨τ,xs,cF,v,l,l',h1,?_,h3,?_,?_,?_⟩
  .simp only[TB,he];rw[<-h2]
  .simp only[B7,he];exact h4
  .simp only[B7,vH,he];exact h5
  .simp only[vH,he];exact h6
 a2h id b:=by
  rintro⟨e,he⟩ hb;simp only[vH,he] at hb;rcases Uz _ (eX he) b hb with ⟨q,hq,hbq⟩|QW
  .exact .inl ⟨q.1,⟨q.2,ru cX hq⟩,hbq⟩
  .exact .inr QW
 apart id di b:=by
  rintro⟨e,he⟩ ⟨e',xf⟩ hb cv;simp only[vH,he] at hb;simp only[vH,xf] at cv;exact QP _ (eX he) _ (eX xf) b hb cv
 heap b hb hn:=a3x b hb λ p hp=>hn p.1 ⟨p.2,ru cX hp⟩
 os:=hos
 tape:=UI
 output:=PR
 size:=vZ
def tT(G:Gh)(lk:Nat->Option aw)(ids:List Nat)(b:Nat):Prop :=
 ∃ id∈ids,(∃ τ xs,lk id=some (.aC τ xs)/\b∈G.φ id)\/∃ e τ xs,lk id=some (.row e τ xs)/\dx (G.η id)=some b
theorem tT.mono{ids a2B:List Nat}{b:Nat}(h:tT G lk ids b)(hs:∀ i∈ids,i∈a2B):tT G lk a2B b:=by
 obtain⟨id,hi,h⟩:=h;exact⟨id,hs id hi,h⟩
theorem bf.iH(h:bf c G sl n lk a w){i j:List Nat}{b:Nat}(hi:tT G lk i b)(hj:tT G lk j b)(hd:∀ x∈i,∀ y∈j,x≠y):False:=by
 obtain⟨x,hx,h1⟩:=hi;obtain⟨y,hy,h2⟩:=hj;rcases h1 with ⟨τ,xs,k1,k2⟩|⟨e,τ,xs,k1,k2⟩<;>rcases h2 with ⟨aT,cF,m1,m2⟩|⟨e',aT,cF,m1,m2⟩
 .exact hd x hx y hy (h.aN.ap x y τ aT xs cF b k1 m1 k2 m2)
 .exact (h.aN.pl x τ xs b k1 k2).2.2.2 y _ m1 m2
 .exact (h.aN.pl y aT cF b m1 m2).2.2.2 x _ k1 k2
 .exact hd x hx y hy (h.apart x y _ _ b k1 m1 k2 m2)
theorem pn{τ:Ty}(h:τ.pj=true)(y:τ.den):(τ.aI y).light=true:=by
 cases τ<;>first|rfl|cases h
theorem Ns:∀ {l:List D},(∀ d∈l,d.light=true)->D.Cp l=true
 | [],_=>rfl
 | d::ds,h=>by
  simp only[D.Cp,a7H];exact⟨h d (by simp),Ns λ e he=>h e (a8y _ he)⟩
theorem Ru{τ:Ty}(h:τ.plain=true)(y:τ.den):(τ.aI y).light=true:=by
 cases τ with
 | st s =>
  show (s.aI y).light=true;rw[aJ.bR];refine Ns λ d hd=>?_;obtain⟨u,hu,rfl⟩:=a7B.1 hd;have ht:u.τ∈s.my:=by rw[<-aJ.iD s y];exact a7B.2 ⟨u,hu,rfl⟩
  exact pn (a8g.1 h _ ht) u.x
 | slice t=>cases h
 | mv t=>cases h
 | ptr=>rfl
 | int k=>rfl
 | bool=>rfl
 | str=>rfl
theorem vG(h:bf c G sl n lk a w){τ:Ty}{v:AV}{x:Value}{y:τ.den}{ids:List Nat}(ht:eA lk τ v=some (y,ids))(hv:C1 c G lk w v x):∃ fp,Ow w (τ.aI y) [x] fp/\fp.Nodup/\∀ b∈fp,tT G lk ids b:=by
 cases v with
 | aQ u =>
  simp only[eA] at ht;split at ht
  .rename_i y' hs hy;simp only[a7v,a7x] at ht;obtain⟨rfl,rfl⟩:=ht;have e:=TV.aR hy;subst e;exact⟨[],Ow.eu _ (pn hs _) hv.2,a8F,by simp⟩
  .cases ht
 | nil =>
  cases τ with
  | slice t =>
   simp only[eA,a7v,a7x] at ht;obtain⟨rfl,rfl⟩:=ht;exact⟨[],⟨none,0,by rw[show x=_ from hv];rfl,by simp,by simp[maxLen],by simp, .inl ⟨rfl,⟨rfl,rfl⟩,rfl⟩⟩,a8F,by simp⟩
  | _=>cases ht
 | aC id =>
  simp only[eA] at ht;split at ht
  .rename_i aT xs hl;split at ht
   .rename_i y' hy;simp only[a7v,a7x] at ht;obtain⟨rfl,rfl⟩:=ht;have e:=TV.aR hy;cases e;obtain⟨_,l,h2,_⟩:=hv;exact⟨G.φ id,Ow.UZ (h.aN.tr id aT xs hl) h2,h.aN.nd id aT xs hl,λ b hb=>⟨id,by simp, .inl ⟨aT,xs,hl,hb⟩⟩⟩
   .cases ht
  .cases ht
 | row id =>
  simp only[eA] at ht;split at ht
  .rename_i e aT xs hl;split at ht
   .rename_i y' hp hy;simp only[a7v,a7x] at ht;obtain⟨rfl,rfl⟩:=ht;have e1:=TV.aR hy;cases e1;obtain⟨hx,_,_⟩:=hv;obtain⟨l,h1,h2,h3⟩:=h.aH id _ hl;have a1h:∀ d∈xs.map aT.aI,d.light=true:=λ d hd=>by
     obtain⟨z,_,rfl⟩:=a7B.1 hd;exact Ru hp z
    rcases h1.2 with ⟨Q5,hn⟩|⟨g,cap,cur,Q5,_,hh,OL,Uw,ij,Zl⟩
    .have jJ:xs=[]:=a8G hn;subst jJ;exact⟨[],⟨none,0,by rw[hx,Q5];rfl,by simp,by simp[maxLen],by simp, .inl ⟨rfl,⟨rfl,rfl⟩,rfl⟩⟩,a8F,by simp⟩
    .refine⟨[g],⟨some ⟨g,0,none⟩,cap,by rw[hx,Q5];simp,by simpa using OL,Uw,by simpa using h3, .inr ⟨g,[],cur.toList,e,rfl,rfl,by simpa using hh,?_⟩⟩,by simp,λ b hb=>?_⟩
     .have hr:=bI.eu (w:=w) (S:=G.S) (xs.map aT.aI) (l:=l) (m:=cur.toList.drop (xs.length * aT.size)) a1h h2;rw[<-Zl,a9a] at hr;exact⟨by rw[a8q];exact ij,hr⟩
     .simp only[a7O] at hb;subst hb;exact⟨id,by simp, .inr ⟨e,aT,xs,hl,by rw[Q5];rfl⟩⟩
   .cases ht
  .cases ht
 | _=>cases ht
theorem dV{l1 l2:List Nat}(h1:l1.Nodup)(h2:l2.Nodup)(h3:∀ x∈l1,x∉l2):(l1++l2).Nodup:=by
 rw[a7Q];exact⟨h1,h2,λ x hx y hy e=>h3 x hx (e ▸ hy)⟩
theorem HR(h:bf c G sl n lk a w):∀ {cs:List AV} {ts:List Ty} {us:List TV} {ids:List Nat} {l:List Value},HQ lk cs ts=some (us,ids)->aM (C1 c G lk w) cs l->ids.Nodup ->
  ∃ fp,cW w (us.map TV.aI) l fp/\fp.Nodup/\(∀ b∈fp,tT G lk ids b)/\us.map TV.τ=ts
 | [],[],us,ids,l,ht,hl,_=>by
  simp only[HQ,a7v,a7x] at ht;obtain⟨rfl,rfl⟩:=ht;match l,hl with
  | [],_=>exact⟨[],⟨rfl,rfl⟩,a8F,by simp,rfl⟩
 | cc::cs,t::ts,us,ids,l,ht,hl,cX=>by
  simp only[HQ] at ht;split at ht
  .rename_i x i hx;split at ht
   .rename_i r j hr;simp only[a7v,a7x] at ht;obtain⟨rfl,rfl⟩:=ht;match l,hl with
    | v::l,hl =>
     rw[a7Q] at cX;obtain⟨n1,n2,n3⟩:=cX;obtain⟨f1,a1,a2,a3⟩:=vG h hx hl.1;obtain⟨f2,b1,b2,b3,b4⟩:=HR h hr hl.2 n2;refine⟨f1++f2,⟨v,l,f1,f2,rfl,rfl,a1,b1⟩,dV a2 b2 λ b hb cv=>h.iH (a3 b hb) (b3 b cv) (λ x hx y hy=>n3 x hx y hy),λ b hb=>?_,by simp[b4]⟩;rcases a7y.1 hb with hb|hb
     .exact (a3 b hb).mono λ k hk=>by simp[hk]
     .exact (b3 b hb).mono λ k hk=>by simp[hk]
   .cases ht
  .cases ht
 | [],_::_,_,_,_,ht,_,_=>by cases ht
 | _::_,[],_,_,_,ht,_,_=>by cases ht
theorem px(h:bf c G sl n lk a w){τ:Ty}{v:AV}{x:Value}{y:τ.den}{ids:List Nat}(ht:FE lk τ v=some (y,ids))(hv:VR c G lk w v x)(cX:ids.Nodup):∃ fp,vL w ⟨τ,y⟩ x fp/\fp.Nodup/\∀ b∈fp,tT G lk ids b:=by
 have one:(∀ cs,v ≠ .agg cs)->eA lk τ v=some (y,ids)->∃ fp,vL w ⟨τ,y⟩ x fp/\fp.Nodup/\∀ b∈fp,tT G lk ids b:=by
  intro hna ht;have bU:∀ s,τ ≠ .st s:=λ s e=>by
   subst e;cases v with
   | aQ u=>simp[eA,Ty.pj] at ht
   | nil=>simp[eA] at ht
   | aC id =>
    simp only[eA] at ht;split at ht
    .split at ht
     .rename_i hy;have e:=TV.aR hy;cases e
     .cases ht
    .cases ht
   | row id =>
    simp only[eA] at ht;split at ht
    .split at ht
     .rename_i hy;have e:=TV.aR hy;cases e
     .cases ht
    .cases ht
   | _=>cases ht
  have hc:C1 c G lk w v x:=by
   refine hv.P7 ?_;cases v with
   | aQ u =>
    simp only[eA] at ht;split at ht
    .rename_i hy;have e:=TV.aR hy;subst e;cases τ<;>first|rfl|exact absurd rfl (bU _)
    .cases ht
   | nil=>rfl
   | aC id=>rfl
   | row id=>rfl
   | _=>cases ht
  obtain⟨fp,h1,h2,h3⟩:=vG h ht hc;refine⟨fp,?_,h2,h3⟩;cases τ with
  | st s=>exact absurd rfl (bU s)
  | _=>exact h1
 cases v with
 | agg cs =>
  cases τ with
  | st s =>
   simp only[FE] at ht;split at ht
   .rename_i us i ij;split at ht
    .rename_i y' hy;simp only[a7v,a7x] at ht;obtain⟨rfl,rfl⟩:=ht;obtain⟨l,rfl,hl⟩:=hv;obtain⟨fp,h1,h2,h3,_⟩:=HR h ij hl cX;refine⟨fp,⟨l,rfl,?_⟩,h2,h3⟩;rw[aJ.bR,aJ.ly hy];exact h1
    .cases ht
   .cases ht
  | _=>cases ht
 | _=>exact one (by intro cs;simp) ht
theorem cW.split:∀ (ds:List D) {l:List Value} {fp:List Nat} (i:Nat) (d:D),cW w ds l fp->ds[i]?=some d ->
  ∃ v f0 f1 f2,fp=f0++f1++f2/\l[i]?=some v/\Ow w d [v] f1/\∀ (w':World) (d':D) (v':Value) (gV:List Nat),(∀ b∈f0++f2,w'.heap[b]?=w.heap[b]?)->Ow w' d' [v'] gV->cW w' (ds.set i d') (l.set i v') (f0++gV++f2)
 | [],_,_,_,_,_,hi=>by simp at hi
 | e::ds,_,_,0,d,h,hi=>by
  obtain⟨v,r,f1,f2,rfl,rfl,h3,h4⟩:=h;simp at hi;subst hi;exact⟨v,[],f1,f2,by simp,rfl,h3,λ w' d' v' gV hw hd=>⟨v',r,gV,f2,rfl,by simp,hd,cW.aK ds h4 λ b hb=>hw b (by simp[hb])⟩⟩
 | e::ds,_,_,i+1,d,h,hi=>by
  obtain⟨v,r,g1,g2,rfl,rfl,h3,h4⟩:=h;obtain⟨u,f0,f1,f2,rfl,k1,k2,k3⟩:=cW.split ds i d h4 (by simpa using hi);refine⟨u,g1++f0,f1,f2,by simp,by simpa using k1,k2,λ w' d' v' gV hw hd=>?_⟩;exact⟨v,r.set i v',g1,f0++gV++f2,rfl,by simp,Ow.aK e h3 λ b hb=>hw b (by simp[hb]),k3 w' d' v' gV (λ b hb=>hw b (by simp at hb ⊢;rcases hb with hb|hb<;>simp[hb])) hd⟩
theorem J7(v:AV):v.cO=v\/v.cO = .any:=by unfold AV.cO;split<;>simp
theorem DF(v:AV):v.cO.HM=false:=by
 unfold AV.cO;split
 .rfl
 .assumption
theorem Kj:∀ cs:List AV,AV.mn (cs.map AV.cO)=false
 | []=>rfl
 | v::r=>by simp only[a8d,AV.mn,DF];exact Kj r
theorem C1.cO{v:AV}{x:Value}(h:C1 c G lk w v x):C1 c G lk w v.cO x:=by
 rcases J7 v with e|e
 .rw[e];exact h
 .rw[e];trivial
theorem DW(o:Option aw):eg o (o.map aw.cO):=by
 refine⟨λ h=>?_,λ e τ xs h=>⟨e,xs,by rw[h];rfl,a7P _⟩,λ h=>?_,λ h=>?_⟩
 .match o,h with
  | some (.box cs),_=>rfl
 .match o,h with
  | some (.aC τ xs),_=>rfl
 .match o,h with
  | some (.map m),_=>rfl
theorem vz{o:Option aw}{τ:Ty}{xs:List τ.den}(h:o.map aw.cO=some (.aC τ xs)):o=some (.aC τ xs):=by
 match o,h with
 | some (.aC aT cF),h=>exact h
 | some (.box _),h=>cases h
 | some (.row ..),h=>cases h
theorem bf.bX(h:bf c G sl n lk a w):bf c G (λ i=>(sl i).cO) n (λ i=>(lk i).map aw.cO) a w:=by
 have h1:bf c G (λ i=>(sl i).cO) n lk a w:=h.forget λ i=>J7 (sl i);exact {
  defers:=h1.defers,size:=h1.size,aK:=h1.aK,iY:=h1.iY,dZ:=h1.dZ,sX:=h1.sX,dy:=h1.dy
  aA:=λ i=>(h1.aA i).mono (λ j _=>⟨DW _,rfl⟩) (λ _ h=>h) (λ _ _=>rfl)
  aH:=λ i o ho=>by
   rw[a8f] at ho;obtain⟨o',cH,rfl⟩:=ho;have hk:OR c G lk w i o'.cO:=by
    have:=h1.aH i o' cH;cases o' with
    | box cs =>
     obtain⟨b,l,t,k1,k2,k3⟩:=this;exact⟨b,l,t,k1,k2,aM.dF _ (k3.imp λ u y _ hy=>hy.cO)⟩
    | row e τ xs=>exact this
    | aC τ xs=>exact this
    | map m=>exact this
   exact hk.mono rfl (λ _ _=>rfl) (λ j _=>⟨DW _,rfl⟩) (λ _ h=>h) (λ _ _=>rfl)
  place:=λ i o b ho hb=>by
   rw[a8f] at ho;obtain⟨o',cH,rfl⟩:=ho;exact h1.place i o' b cH hb
  apart:=λ i j o o' b ho cH hb cv=>by
   rw[a8f] at ho cH;obtain⟨p,hp,rfl⟩:=ho;obtain⟨q,hq,rfl⟩:=cH;exact h1.apart i j p q b hp hq hb cv
  aN:=h1.aN.sub (λ i τ xs k=>vz k) (λ i o k=>by
   rw[a8f] at k;obtain⟨p,hp,_⟩:=k;exact⟨p,hp⟩)
  root:=λ i v hr ht=>h1.root i v hr (by
   match hl:lk i,ht with
   | some (.aC ..),_=>rfl
   | some (.box _),ht=>simp[hl,aw.cO,cU] at ht
   | some (.row ..),ht=>simp[hl,aw.cO,cU] at ht
   | none,ht=>simp[hl,cU] at ht)
  fE:=h1.fE
  dq:=λ i v hr ht=>h1.dq i v hr (by
   match hl:lk i,ht with
   | some (.box _),_=>rfl
   | some (.aC ..),ht=>simp[hl,aw.cO,gH] at ht
   | some (.row ..),ht=>simp[hl,aw.cO,gH] at ht
   | none,ht=>simp[hl,gH] at ht)
  eF:=h1.eF }
end
section
variable {c:Ctx} {G:Gh} {s:ah} {a:Act} {w w':World}
theorem N8(s:ah):s.bX.sl=λ i=>(s.sl i).cO:=by
 funext i;simp only[ah.sl,ah.bX,a7G,a8T];cases s.aA[i]?<;>rfl
theorem iK(s:ah):s.bX.ag=λ i=>(s.ag i).map aw.cO:=by
 funext i;exact Cq _ _ _
theorem Inv.bX(h:Inv c G s a w):Inv c G s.bX a w/\(∀ i,(s.bX.sl i).HM=false)/\∀ id cs,s.bX.ag id=some (.box cs)->AV.mn cs=false:=by
 refine⟨?_,λ i=>by rw[N8];exact DF _,λ id cs aO=>?_⟩
 .unfold Inv;rw[N8,iK,show s.bX.aA.length=s.aA.length from by simp[ah.bX]];exact bf.bX h
 .rw[iK] at aO;simp only[a8f] at aO;obtain⟨o,_,ho⟩:=aO;cases o with
  | box dt=>cases ho;exact Kj dt
  | row e τ xs=>cases ho
  | aC τ xs=>cases ho
  | map m=>cases ho
theorem Inv.Wu(h:Inv c G s a w){A:List (Nat×TE)}(hA:∀ p∈A,XV G s.ag w' p.1 p.2)(Uz:∀ p∈A,∀ b∈p.2.2.1,(∃ q∈A,b∈G.φ q.1)\/rb c G s.ag w' b)(QP:∀ p∈A,∀ q∈A,∀ b∈p.2.2.1,b∈q.2.2.1->p.1=q.1)(cX:(A.map (·.1)).Nodup)
  {F:Nat->Prop} (hk:bJ F w w') (hF:∀ b,F b->∃ p∈A,b∈G.φ p.1) {t:ah} (Xa:t.aA=s.bX.aA) (Ak:∀ i,t.ag i=TB A s.bX.ag i) {d:Option Nat} {v:AV} {x:Value} (hv:∀ G' lk,VR c G' lk w' v x) :
  ∃ G',Inv c G' (t.put d v) (a.put d x) w':=by
 obtain⟨h1,h2,h3⟩:=h.bX;have YH:∀ p∈A,XV G s.bX.ag w' p.1 p.2:=λ p hp=>by
  obtain⟨τ,xs,cF,v,l,l',k1,k2⟩:=(hA p hp).ex;exact⟨τ,xs,cF,v,l,l',by rw[iK];simp[k1,aw.cO],k2⟩
 have a1e:∀ p∈A,∀ b∈p.2.2.1,(∃ q∈A,b∈G.φ q.1)\/rb c G s.bX.ag w' b:=λ p hp b hb=>(Uz p hp b hb).imp id λ ⟨q1,q2,q3,q4,q5⟩ =>
  ⟨q1,q2,q3,λ i o hi=>by
   rw[iK] at hi;simp only[a8f] at hi;obtain⟨o',cH,_⟩:=hi;exact q4 i o' cH,λ j τ xs hj=>q5 j τ xs (by rw[iK] at hj;exact vz hj)⟩
 have T:=Dj.ofList (c:=c) (w:=w) YH a1e QP cX (λ b hb hn=>hk.block b hb λ hf=>by
  obtain⟨p,hp,hbp⟩:=hF b hf;exact hn p hp hbp) hk.os hk.tape hk.output hk.size
 have hI:=bf.eo h1 T h2 h3;refine⟨_,Inv.put (G:=⟨G.S,B7 A G,vH A G⟩) ?_ (hv _ _)⟩;unfold Inv;rw[show t.sl=s.bX.sl from by funext i;simp only[ah.sl,Xa],show t.ag=TB A s.bX.ag from funext Ak,Xa];exact hI
theorem Ol(id:Nat)(e:TE)(lk:Nat->Option aw)(i:Nat):TB [(id,e)] lk i=if i=id then some e.2.2 else lk i:=by
 unfold TB;simp only[ag];by_cases hi:i=id
 .subst hi;simp
 .have:Nat.beq id i=false:=by
   cases hb:Nat.beq id i with
   | false=>rfl
   | true=>exact absurd (a7w hb).symm hi
  simp[this,hi]
theorem ja(s:ah)(id:Nat)(τ:Ty)(xs:List τ.den)(i:Nat):(s.fb id τ xs).ag i=if i=id then some (.aC τ xs) else s.ag i:=by
 show ag ((id,_)::bD id s.aH) i=_;rw[dj,dU];by_cases hi:i=id
 .simp[hi]
 .simp[hi];rfl
theorem a1B{lk:Nat->Option aw}{k:Int}(h:au k):VR c G lk w (.aQ ⟨.int .i64,k⟩) (.int .i64 k):=by
 refine⟨rfl,?_⟩;simp only[IntKind.min,IntKind.max,IntKind.signed,IntKind.bits,a9o];obtain⟨q1,q2⟩:=h;constructor<;>omega
theorem YE(h:Inv c G s a w){b:Nat}(h1:w.heap.size<=b)(h2:b<w'.heap.size):rb c G s.ag w' b:=by
 have:=h.aK.size;refine⟨.inl (by omega),λ hs=>by have:=h.dy b hs;omega,h2,λ i o hi qg=>by have:=(h.place i o b hi qg).2.2;omega,λ j τ xs hj lb=>by have:=(h.aN.pl j τ xs b hj lb).2.2.1;omega⟩
theorem vD{f0 f1 f2 gV:List Nat}(h:(f0++f1++f2).Nodup)(h1:gV.Nodup)(hs:∀ b∈gV,b∈f1\/(b∉f0/\b∉f2)):(f0++gV++f2).Nodup:=by
 rw[a7Q,a7Q] at h;obtain⟨⟨a1,a2,a3⟩,a4,a5⟩:=h;refine dV (dV a1 h1 λ x hx sR=>(hs x sR).elim (λ q=>a3 x hx x q rfl) λ q=>q.1 hx) a4 λ x hx sR=>?_;rcases a7y.1 hx with hx|hx
 .exact a5 x (by simp[hx]) x sR rfl
 .exact (hs x hx).elim (λ q=>a5 x (by simp[q]) x sR rfl) λ q=>q.2 sR
theorem Kg{w:World}{τ XK:Ty}{x:τ.den}{off:Nat}{u:TV}(hu:TV.part ⟨τ,x⟩ off XK=some u)(bU:XK.agg=false){ce:List Value}{fp:List Nat}(hO:Ow w (τ.aI x) ce fp) :
  ∃ v f0 f1 f2,fp=f0++f1++f2/\ce[off]?=some v/\Ow w u.aI [v] f1/\∀ (w':World) (u':TV) (y:τ.den) (v':Value) (gV:List Nat),lB τ x off u'=some y->(∀ b∈f0++f2,w'.heap[b]?=w.heap[b]?)->Ow w' u'.aI [v'] gV->Ow w' (τ.aI y) (ce.set off v') (f0++gV++f2):=by
 cases τ with
 | st s =>
  have lf:(s.cells x)[off]?=some u:=by
   unfold TV.part at hu;split at hu
   .rename_i hb;simp only[a7H] at hb;have:=a7Z hb.2;have e:Ty.st s=XK:=this;subst e;cases bU
   .split at hu
    .rename_i z hz;split at hu
     .simp only[a7v] at hu;subst hu;exact hz
     .cases hu
    .cases hu
  rw[show Ty.aI (.st s) x=s.aI x from rfl,aJ.bR] at hO;obtain⟨v,f0,f1,f2,h1,h2,h3,h4⟩:=cW.split _ off u.aI hO (by rw[a8T,lf];rfl);refine⟨v,f0,f1,f2,h1,h2,h3,λ w' u' y v' gV hp hw qf=>?_⟩;simp only[lB,lf] at hp;split at hp
  .have hy:=aJ.ly hp;rw[show Ty.aI (.st s) y=s.aI y from rfl,aJ.bR,hy,b0Y];exact h4 w' u'.aI v' gV hw qf
  .cases hp
 | slice t =>
  have na:off=0/\u=⟨.slice t,x⟩:=by
   unfold TV.part at hu;split at hu
   .rename_i hb;simp only[a7H] at hb;simp only[a7v] at hu;exact⟨a7w hb.1,hu.symm⟩
   .split at hu
    .rename_i z hz;cases off with
     | zero=>simp[TV.cells] at hz;subst hz;split at hu<;>simp_all
     | succ k=>simp[TV.cells] at hz
    .cases hu
  obtain⟨rfl,rfl⟩:=na;have hl:=Ow.length _ hO;match ce,hl with
  | [v],_ =>
   refine⟨v,[],fp,[],by simp,rfl,hO,λ w' u' y v' gV hp _ qf=>?_⟩;simp only[lB] at hp;have e:=TV.aR hp;subst e;rw[a8l,a8z];exact qf
 | mv t =>
  have na:off=0/\u=⟨.mv t,x⟩:=by
   unfold TV.part at hu;split at hu
   .rename_i hb;simp only[a7H] at hb;simp only[a7v] at hu;exact⟨a7w hb.1,hu.symm⟩
   .split at hu
    .rename_i z hz;cases off with
     | zero=>simp[TV.cells] at hz;subst hz;split at hu<;>simp_all
     | succ k=>simp[TV.cells] at hz
    .cases hu
  obtain⟨rfl,rfl⟩:=na;have hl:=Ow.length _ hO;rw[Ty.cm] at hl;match ce,hl with
  | [v],_ =>
   refine⟨v,[],fp,[],by simp,rfl,hO,λ w' u' y v' gV hp _ qf=>?_⟩;simp only[lB] at hp;have e:=TV.aR hp;subst e;rw[a8l,a8z];exact qf
 | ptr =>
  have na:off=0/\u=⟨.ptr,x⟩:=by
   unfold TV.part at hu;split at hu
   .rename_i hb;simp only[a7H] at hb;simp only[a7v] at hu;exact⟨a7w hb.1,hu.symm⟩
   .split at hu
    .rename_i z hz;cases off with
     | zero=>simp[TV.cells] at hz;subst hz;split at hu<;>simp_all
     | succ k=>simp[TV.cells] at hz
    .cases hu
  obtain⟨rfl,rfl⟩:=na;have hl:=Ow.length _ hO;rw[Ty.cm] at hl;match ce,hl with
  | [v],_ =>
   refine⟨v,[],fp,[],by simp,rfl,hO,λ w' u' y v' gV hp _ qf=>?_⟩;simp only[lB] at hp;have e:=TV.aR hp;subst e;rw[a8l,a8z];exact qf
 | int k =>
  have na:off=0/\u=⟨.int k,x⟩:=by
   unfold TV.part at hu;split at hu
   .rename_i hb;simp only[a7H] at hb;simp only[a7v] at hu;exact⟨a7w hb.1,hu.symm⟩
   .split at hu
    .rename_i z hz;cases off with
     | zero=>simp[TV.cells] at hz;subst hz;split at hu<;>simp_all
     | succ k=>simp[TV.cells] at hz
    .cases hu
  obtain⟨rfl,rfl⟩:=na;have hl:=Ow.length _ hO;match ce,hl with
  | [v],_ =>
   refine⟨v,[],fp,[],by simp,rfl,hO,λ w' u' y v' gV hp _ qf=>?_⟩;simp only[lB] at hp;have e:=TV.aR hp;subst e;rw[a8l,a8z];exact qf
 | bool =>
  have na:off=0/\u=⟨.bool,x⟩:=by
   unfold TV.part at hu;split at hu
   .rename_i hb;simp only[a7H] at hb;simp only[a7v] at hu;exact⟨a7w hb.1,hu.symm⟩
   .split at hu
    .rename_i z hz;cases off with
     | zero=>simp[TV.cells] at hz;subst hz;split at hu<;>simp_all
     | succ k=>simp[TV.cells] at hz
    .cases hu
  obtain⟨rfl,rfl⟩:=na;have hl:=Ow.length _ hO;match ce,hl with
  | [v],_ =>
   refine⟨v,[],fp,[],by simp,rfl,hO,λ w' u' y v' gV hp _ qf=>?_⟩;simp only[lB] at hp;have e:=TV.aR hp;subst e;rw[a8l,a8z];exact qf
 | str =>
  have na:off=0/\u=⟨.str,x⟩:=by
   unfold TV.part at hu;split at hu
   .rename_i hb;simp only[a7H] at hb;simp only[a7v] at hu;exact⟨a7w hb.1,hu.symm⟩
   .split at hu
    .rename_i z hz;cases off with
     | zero=>simp[TV.cells] at hz;subst hz;split at hu<;>simp_all
     | succ k=>simp[TV.cells] at hz
    .cases hu
  obtain⟨rfl,rfl⟩:=na;have hl:=Ow.length _ hO;match ce,hl with
  | [v],_ =>
   refine⟨v,[],fp,[],by simp,rfl,hO,λ w' u' y v' gV hp _ qf=>?_⟩;simp only[lB] at hp;have e:=TV.aR hp;subst e;rw[a8l,a8z];exact qf
theorem Tk(l:List Value)(o n k:Nat)(v:Value)(hk:k<n)(hl:o+n<=l.length):l.take o++((l.drop o).take n).set k v++l.drop (o+n)=l.set (o+k) v:=by
 conv=>rhs;rw[<-a9a o l]
 rw[a9X _ _ (by simp;omega),a8c];congr 1;have e:o+k - (List.take o l).length=k:=by rw[a8D];omega
 rw[e];conv=>rhs;rw[<-a9a n (l.drop o)]
 rw[List.set_append_left _ _ (by rw[a8D,a8J];omega),b0F]
theorem Vp{w:World}{η:Value}{τ XK:Ty}{xs:List τ.den}{fp:List Nat}(hT:gL w η τ xs fp)(cX:fp.Nodup){a0:Option Addr}{n cap:Nat}{l:List Value}(eI:η = .tuple (.slice a0 n cap::l).toArray){i off:Nat}(hi:i<n){u:TV}
  (hu:TV.part ⟨τ,xs.getD i τ.zero⟩ off XK=some u) (bU:XK.agg=false) (na:off<τ.size):n=xs.length /\
  ∃ v f1,l[i * τ.size+off]?=some v/\Ow w u.aI [v] f1/\f1.Nodup/\(∀ b∈f1,b∈fp)/\∀ (w':World) (u':TV) (y:τ.den) (v':Value) (gV:List Nat),lB τ (xs.getD i τ.zero) off u'=some y->(∀ b∈fp,b∉f1->(a0=some ⟨b,0,none⟩->∃ t,w'.heap[b]?=some (.cells (l.set (i * τ.size+off) v').toArray t (0,0)))/\(a0≠some ⟨b,0,none⟩->w'.heap[b]?=w.heap[b]?))->Ow w' u'.aI [v'] gV->gV.Nodup->(∀ b∈gV,b∈f1\/b∉fp) ->
   ∃ A2,gL w' (.tuple (.slice a0 n cap::l.set (i * τ.size+off) v').toArray) τ (xs.set i y) A2/\A2.Nodup/\∀ b∈A2,b∈fp\/b∈gV:=by
 obtain⟨v0,l0,a1,Pq,h1,h2,h3,h4,h5,h6⟩:=hT;rw[eI] at h1;simp only[a8Z] at h1;have h1:(Value.slice a0 n cap::l)=v0::l0:=congrArg Array.toList h1;simp only[a7A] at h1;obtain⟨hq,sP⟩:=h1;subst sP;rw[h2] at hq;simp only[a9k] at hq;obtain⟨rfl,rfl,rfl⟩:=hq;rcases h6 with ⟨rfl,_,_⟩|⟨b,f,t,rfl,rfl,k1,k0,k2⟩
 .simp at hi
 .have bW:∀ d∈xs.map τ.aI,d.size=τ.size:=by
   intro d hd;obtain⟨z,_,rfl⟩:=a7B.1 hd;exact Ty.cm τ z
  obtain⟨g0,g1,g2,rfl,hlen,m1,m2⟩:=bI.split (xs.map τ.aI) i (τ.aI (xs.getD i τ.zero)) k2 bW (by simp[List.getD,hi]);obtain⟨v,p0,p1,p2,rfl,q1,q2,q3⟩:=Kg hu bU m1;have hvl:l[i * τ.size+off]?=some v:=by
   rw[a8O,a7E na,a9C] at q1;exact q1
  rw[a8b] at cX;obtain⟨hb,cX⟩:=cX;have PQ:(p0++p1++p2).Nodup:=by
   rw[a7Q,a7Q] at cX;exact cX.1.2.1
  have SA:p1.Nodup:=by
   rw[a7Q,a7Q] at PQ;exact PQ.1.2.1
  refine⟨rfl,v,p1,hvl,q2,SA,λ b hb=>by simp[hb],λ w' u' y v' gV hp hw qf rm W6=>?_⟩;have dis:∀ c∈g0++(p0++p1++p2)++g2,c∉p1->w'.heap[c]?=w.heap[c]?:=λ c hc hn=>(hw c (a8y _ hc) hn).2 λ e=>by
   simp only[a7v,a9n,a7W] at e;subst e;exact hb hc
  have ff:∀ c,c∈p1->c∈p0++p1++p2:=λ c hc=>by simp[hc]
  rw[a7Q,a7Q] at cX;obtain⟨⟨n1,n2,n3⟩,n4,n5⟩:=cX;have h0:∀ c∈g0++g2,c∉p1:=λ c hc IE=>by
   rcases a7y.1 hc with hc|hc
   .exact n3 c hc c (ff c IE) rfl
   .exact n5 c (a7y.2 (.inr (ff c IE))) c hc rfl
  have h00:∀ c∈p0++p2,c∉p1:=λ c hc IE=>by
   rw[a7Q,a7Q] at PQ;rcases a7y.1 hc with hc|hc
   .exact PQ.1.2.2 c hc c IE rfl
   .exact PQ.2.2 c (by simp[IE]) c hc rfl
  have hy:=q3 w' u' y v' gV hp (λ c hc=>dis c (by simp at hc ⊢;rcases hc with hc|hc<;>simp[hc]) (h00 c hc)) qf;have eO:=m2 w' (τ.aI y) _ (p0++gV++p2) (λ c hc=>dis c (by simp at hc ⊢;rcases hc with hc|hc<;>simp[hc]) (h0 c hc)) (by simp only[List.length_set,List.length_take,List.length_drop];omega) hy;rw[Tk l _ _ _ v' na hlen,<-List.map_set] at eO;obtain⟨t',II⟩:=(hw b (by simp) λ hc=>hb (by simp[hc])).1 rfl;refine⟨b::(g0++(p0++gV++p2)++g2),⟨_,_,_,cap,rfl,by simp,by simpa using h3,h4,by simpa using h5, .inr ⟨b,_,t',rfl,rfl,II,by rw[List.length_set];exact k0,eO⟩⟩,?_,?_⟩
  .have QW:∀ c∈gV,c∈p1\/(c∉p0/\c∉p2):=λ c hc=>(W6 c hc).imp id λ q=>⟨λ q'=>q (by simp[q']),λ q'=>q (by simp[q'])⟩;have uH:∀ c∈p0++gV++p2,c∈p0++p1++p2\/(c∉g0/\c∉g2):=λ c hc=>by
    simp only[a7y] at hc;rcases hc with (hc|hc)|hc
    .exact .inl (by simp[hc])
    .rcases W6 c hc with q|q
     .exact .inl (by simp[q])
     .exact .inr ⟨λ q'=>q (by simp[q']),λ q'=>q (by simp[q'])⟩
    .exact .inl (by simp[hc])
   rw[a8b];refine⟨λ hc=>?_,vD (f1:=p0++p1++p2) (dV (dV n1 n2 λ x hx sR=>n3 x hx x sR rfl) n4 λ x hx sR=>n5 x hx x sR rfl) (vD PQ rm QW) uH⟩;simp only[a7y] at hc;rcases hc with (hc|(hc|hc)|hc)|hc
   .exact hb (by simp[hc])
   .exact hb (by simp[hc])
   .rcases W6 b hc with q|q
    .exact hb (by simp[q])
    .exact q (by simp)
   .exact hb (by simp[hc])
   .exact hb (by simp[hc])
  .intro c hc;simp only[a7J,a7y] at hc;rcases hc with hc|(hc|(hc|hc)|hc)|hc
   .exact .inl (by simp[hc])
   .exact .inl (by simp[hc])
   .exact .inl (by simp[hc])
   .exact .inr hc
   .exact .inl (by simp[hc])
   .exact .inl (by simp[hc])
end
section
variable {c:Ctx} {G:Gh} {s:ah} {a:Act} {w w':World}
theorem xK(h:Inv c G s a w){o:Oper}{v:AV}{x:Value}{Q:Exit->Act->World->Prop}(hr:(execOp a.eval o).run c.P w = .ok (.value x) w)(hv:VR c G s.ag w v x) :
  o.wp c.P a w (λ a' w'=>∃ G',Inv c G' (s.put o.dst v) a' w') Q:=by
 unfold Oper.wp;rw[hr];exact⟨G,Inv.put h hv⟩
theorem rM{η:Value}{τ:Ty}{xs:List τ.den}{fp:List Nat}(hT:gL w η τ xs fp){a0:Option Addr}{n cap:Nat}{l:List Value}(eI:η = .tuple (.slice a0 n cap::l).toArray){i:Nat}(hi:i<n) :
  n=xs.length/\∃ b f t,a0=some ⟨b,0,none⟩/\fp=b::f/\w.heap[b]?=some (.cells l.toArray t (0,0))/\bI w (xs.map τ.aI) l f:=by
 obtain⟨v0,l0,a1,Pq,h1,h2,h3,h4,h5,h6⟩:=hT;rw[eI] at h1;simp only[a8Z] at h1;have h1:(Value.slice a0 n cap::l)=v0::l0:=congrArg Array.toList h1;simp only[a7A] at h1;obtain⟨hq,sP⟩:=h1;subst sP;rw[h2] at hq;simp only[a9k] at hq;obtain⟨rfl,rfl,rfl⟩:=hq;rcases h6 with ⟨rfl,_,_⟩|⟨b,f,t,q1,q2,q3,q4⟩
 .simp at hi
 .exact⟨rfl,b,f,t,q1,q2,q3,q4.2⟩
theorem HX{t:Ty}{x:Value}(h:C1 c G s.ag w (zeroCell t) x)(ht:t.agg=false):Ow w (t.aI t.zero) [x] []:=by
 cases t with
 | slice t' =>
  have h:x = .slice none 0 0:=h;subst h;exact⟨none,0,rfl,a7P _,by simp[maxLen],a8r _, .inl ⟨rfl,⟨rfl,rfl⟩,rfl⟩⟩
 | st s=>cases ht
 | mv t=>exact Ow.eu (S:=G.S) _ rfl h.2
 | ptr=>exact Ow.eu (S:=G.S) _ rfl h.2
 | int k=>exact Ow.eu (S:=G.S) _ rfl h.2
 | bool=>exact Ow.eu (S:=G.S) _ rfl h.2
 | str=>exact Ow.eu (S:=G.S) _ rfl h.2
theorem WJ(s:aJ):∀ t∈s.my,t.agg=false:=λ t ht=>by
 rw[<-aJ.iD s s.zero] at ht;obtain⟨u,hu,rfl⟩:=a7B.1 ht;exact LY s _ u hu
theorem a0J{c:Ctx}{G:Gh}{s:ah}{τ:Ty}{z:Value}(h:vJ τ z=true):Ow w (τ.aI τ.zero) z.cells.toList []:=by
 have h1:=gd (c:=c) (G:=G) (lk:=s.ag) (w:=w) h;cases τ with
 | st st =>
  simp only[zeroCells] at h1;show Ow w (st.aI st.zero) _ [];rw[aJ.bR];have hz:(st.cells st.zero).map TV.aI=st.my.map λ t=>t.aI t.zero:=by cases st<;>rfl
  rw[hz];have h2:=aM.of_map _ h1;have:∀ (ts:List Ty) (vs:List Value),aM (λ t x=>Ow w (t.aI t.zero) [x] []) ts vs->cW w (ts.map λ t=>t.aI t.zero) vs []:=by
   intro ts;induction ts with
   | nil=>intro vs h;cases vs<;>first|exact⟨rfl,rfl⟩|cases h
   | cons t ts ih =>
    intro vs h;cases vs with
    | nil=>cases h
    | cons v vs=>exact⟨v,vs,[],[],rfl,rfl,h.1,ih vs h.2⟩
  exact this _ _ (h2.imp λ t x ht hx=>HX hx (WJ st t ht))
 | _ =>
  simp only[zeroCells] at h1;match hc:z.cells.toList,h1 with
  | [x],h1=>exact HX h1.1 rfl
theorem bI.R0:∀ (ds:List D) {es:List D} {l m:List Value} {n:Nat},bI w ds l []->(∀ d∈ds,d.size=n)->l.length=ds.length * n->bI w es m []->bI w (ds++es) (l++m) []
 | [],es,l,m,n,_,_,hl,h=>by
  have:l=[]:=List.eq_nil_of_length_eq_zero (by simpa using hl);subst this;simpa using h
 | d::ds,es,l,m,n,h,hn,hl,h'=>by
  obtain⟨cc,r,f1,f2,rfl,hf,h3,h4⟩:=h;have hf:=(List.append_eq_nil_iff.1 hf.symm);obtain⟨rfl,rfl⟩:=hf;have hc:cc.length=n:=by rw[Ow.length _ h3];exact hn d (by simp)
  refine⟨cc,r++m,[],[],by simp,rfl,h3,bI.R0 ds h4 (λ d hd=>hn d (by simp[hd])) ?_ h'⟩;simp only[a7K,a7I,a8B,Nat.one_mul] at hl;omega
theorem bI.more:∀ (ds:List D) {l:List Value} {fp:List Nat} (m:List Value),bI w ds l fp->bI w ds (l++m) fp
 | [],_,_,_,h=>h
 | d::ds,_,_,m,h=>by
  obtain⟨cc,r,f1,f2,rfl,hf,h3,h4⟩:=h;exact⟨cc,r++m,f1,f2,by simp,hf,h3,bI.more ds m h4⟩
theorem DH{d:D}{z:Array Value}(h:Ow w d z.toList []):∀ k:Nat,bI w (List.replicate k d) (madeCells z (k * z.size)).toList []
 | 0=>rfl
 | k+1=>by
  have hz:d.size=z.size:=by have:=Ow.length _ h;simpa using this.symm
  rw[zD,b1v];refine bI.R0 (n:=z.size) _ (DH h k) (λ e he=>by rw[b0Z he];exact hz) (by simp[madeCells]) ⟨z.toList,[],[],[],by simp,rfl,h,rfl⟩
theorem Iu(h:Inv c G s a w)(id:Nat):Inv c G (s.gone id) a w:=by
 obtain⟨h1,_,_⟩:=h.clear id;have bP:(s.gone id).ag=λ i=>if i=id then none else (s.bO id).ag i:=by
  funext i;exact dU id _ i
 unfold Inv;show bf c G (s.bO id).sl (s.bO id).aA.length (s.gone id).ag a w;rw[bP,show (s.bO id).aA.length=s.aA.length from by simp[ah.bO]];exact h1
theorem yB(s:ah)(id i:Nat):(s.gone id).ag i=if i=id then none else (s.ag i).map (aw.kill id):=by
 show ag (bD id (s.bO id).aH) i=_;rw[dU,<-congrFun (dM s id) i];rfl
theorem sH:∀ (ids:List Nat) {s:ah},Inv c G s a w->Inv c G (ids.foldl ah.gone s) a w
 | [],_,h=>h
 | id::r,_,h=>sH r (Iu h id)
theorem UP(id:Nat){τ:Ty}{xs:List τ.den}{o:Option aw}(h:o=some (.aC τ xs)):o.map (aw.kill id)=some (.aC τ xs):=by subst h;rfl
theorem J0:∀ (ids:List Nat) {s:ah} {id:Nat} {τ:Ty} {xs:List τ.den},s.ag id=some (.aC τ xs)->id∉ids->(ids.foldl ah.gone s).ag id=some (.aC τ xs)
 | [],_,_,_,_,h,_=>h
 | i::r,s,id,τ,xs,h,hn=>by
  refine J0 r ?_ (λ hh=>hn (by simp[hh]));rw[yB,a7z (λ e=>hn (by simp[e]))];exact UP i h
theorem Ey:∀ (ids:List Nat) {s:ah} {i:Nat} {o:aw},(ids.foldl ah.gone s).ag i=some o->i∉ids/\∃ o',s.ag i=some o'/\∀ τ xs,o = .aC τ xs->o' = .aC τ xs
 | [],s,i,o,h=>⟨by simp,o,h,λ _ _ e=>e⟩
 | id::r,s,i,o,h=>by
  obtain⟨h1,o',h2,h3⟩:=Ey r h;rw[yB] at h2;split at h2
  .cases h2
  .rename_i dm;simp only[a8f] at h2;obtain⟨p,hp,hk⟩:=h2;refine⟨by simp[dm,h1],p,hp,λ τ xs e=>?_⟩;have:=h3 τ xs e;subst this;have hm:(some p).map (aw.kill id)=some (.aC τ xs):=by rw[<-hk];rfl
   have:=ib hm;simpa using this
theorem BY{o:Oper}{T:TypeId}{ad x:Operand}(bh:o.op = .store T ad x){w':World}{s':ah}{G':Gh}(hr:(Instr.storeAt T (a.eval ad) (a.eval x)).run c.P w = .ok () w')(hI:Inv c G' (s'.put none .any) a w'){Q:Exit->Act->World->Prop} :
  o.wp c.P a w (λ a' w'=>∃ G',Inv c G' (s'.put o.dst .any) a' w') Q:=by
 unfold Oper.wp;have:(execOp a.eval o).run c.P w = .ok .skip w':=by simp only[execOp,bh,Sem.run_bind,hr,Result.andThen_ok,Sem.run_pure]
 rw[this];exact⟨G',Inv.put (s:=s') hI trivial⟩
theorem Od(hE:bo c.P c.E)(h:Inv c G s a w){T:TypeId}{τ aT:Ty}{bt e:Nat}(hT:ag c.E.ty T=some (τ,bt,e)){id i off:Nat}{xs:List aT.den}(aO:s.ag id=some (.aC aT xs)){p x:Value}(hp:VR c G s.ag w (.ed id i off aT.size) p)(na:off+τ.size<=aT.size)
  (qk:x.cells.toList.length=τ.size) (sO:∀ u∈x.cells.toList,u.oneCell'=true) {y:aT.den}
  (hO:∀ (b:Nat) (f:List Nat) (l:List Value) (w':World),G.φ id=b::f->l.length>=i * aT.size+aT.size->bI w (xs.map aT.aI) l f->(∀ k,k≠b->w'.heap[k]?=w.heap[k]?) ->
   ∃ f',bI w' ((xs.set i y).map aT.aI) (l.take (i * aT.size+off)++x.cells.toList++l.drop (i * aT.size+off+τ.size)) f'/\f'.Nodup/\b∉f'/\∀ k∈f',k∈f\/rb c G s.ag w k) :
  ∃ w' G',(Instr.storeAt T p x).run c.P w = .ok () w'/\Inv c G' (s.bX.fb id aT (xs.set i y)) a w':=by
 obtain⟨_,b,n,cap,l,eI,hi,rfl⟩:=hp;obtain⟨rfl,b',f,t,e1,lg,hh,eO⟩:=rM (h.aN.tr id aT xs aO) eI hi;simp only[a7v,a9n,a7W] at e1;subst e1;have bW:∀ d∈xs.map aT.aI,d.size=aT.size:=by
  intro d hd;obtain⟨z,_,rfl⟩:=a7B.1 hd;exact Ty.cm aT z
 obtain⟨_,_,_,_,hlen,_,_⟩:=bI.split (xs.map aT.aI) i (aT.aI (xs.getD i aT.zero)) eO bW (by simp[List.getD,hi]);have cC:=yL (c:=c) (l:=l) hE hT (o:=i * aT.size+off) (x:=x) hh qk sO (by omega);have xg:∀ k,k≠b->(w.setRow b (l.take (i * aT.size+off)++x.cells.toList++l.drop (i * aT.size+off+τ.size)).toArray).heap[k]?=w.heap[k]?:=λ k hk=>kk w hh k hk;obtain⟨f',k1,k2,k3,k4⟩:=hO b f l _ lg hlen eO xg;have nM:=b1Q w b l.toArray (l.take (i * aT.size+off)++x.cells.toList++l.drop (i * aT.size+off+τ.size)).toArray t (0,0) hh;have Sl:gL (w.setRow b (l.take (i * aT.size+off)++x.cells.toList++l.drop (i * aT.size+off+τ.size)).toArray) (.tuple (.slice (some ⟨b,0,none⟩) xs.length cap::(l.take (i * aT.size+off)++x.cells.toList++l.drop (i * aT.size+off+τ.size))).toArray) aT (xs.set i y) (b::f'):=by
  obtain⟨v0,l0,a1,Pq,h1,h2,h3,h4,h5,h6⟩:=h.aN.tr id aT xs aO;rw[eI] at h1;simp only[a8Z] at h1;have h1:(Value.slice (some ⟨b,0,none⟩) xs.length cap::l)=v0::l0:=congrArg Array.toList h1;simp only[a7A] at h1;obtain⟨hq,sP⟩:=h1;rw[h2] at hq;simp only[a9k] at hq;obtain⟨rfl,_,rfl⟩:=hq;have Bd:l.length=cap * aT.size:=by
   rw[sP];rcases h6 with ⟨_,h',_⟩|⟨_,_,_,_,_,_,k0,_⟩
   .cases h'.1
   .exact k0
  exact⟨_,_,_,cap,rfl,by simp,by simpa using h3,h4,by simpa using h5, .inr ⟨b,f',t,rfl,rfl,nM,by rw[<-Bd];simp only[List.length_append,List.length_take,List.length_drop,qk];omega,k1⟩⟩
 have MZ:=h.aN.pl id aT xs;have:=h.Wu (w':=w.setRow b (l.take (i * aT.size+off)++x.cells.toList++l.drop (i * aT.size+off+τ.size)).toArray) (t:=s.bX.fb id aT (xs.set i y)) (F:=λ k=>k=b)
  (A:=[(id,(.tuple (.slice (some ⟨b,0,none⟩) xs.length cap::(l.take (i * aT.size+off)++x.cells.toList++l.drop (i * aT.size+off+τ.size))).toArray,b::f', .aC aT (xs.set i y)))]) ?_ ?_ ?_ (by simp)
  ⟨rfl,rfl,rfl,by simp[World.setRow],λ k hk dm=>xg k dm⟩ (λ k hk=>⟨_,a7O.2 rfl,by rw[lg,hk];simp⟩) rfl (λ j=>?_) (d:=none) (v := .any) (x:=undef) (λ _ _=>trivial)
 .obtain⟨G',hG⟩:=this;exact⟨_,G',cC,hG⟩
 .intro p hp;simp only[a7O] at hp;subst hp;exact⟨aT,xs,_,_,l,_,aO,rfl,eI,rfl,Sl,a8b.2 ⟨k3,k2⟩⟩
 .intro p hp k hk;simp only[a7O] at hp;subst hp;rcases a7J.1 hk with rfl|hk
  .exact .inl ⟨_,a7O.2 rfl,by rw[lg];simp⟩
  .rcases k4 k hk with hk|hk
   .exact .inl ⟨_,a7O.2 rfl,by rw[lg];simp[hk]⟩
   .exact .inr (hk.grow (by simp[World.setRow]))
 .intro p hp q hq k _ _;simp only[a7O] at hp hq;rw[hp,hq]
 .rw[Ol,ja]
theorem vL.cells{w:World}{τ:Ty}{y:τ.den}{x:Value}{fp:List Nat}(h:vL w ⟨τ,y⟩ x fp):Ow w (τ.aI y) x.cells.toList fp:=by
 cases τ with
 | st s =>
  obtain⟨cs,rfl,h⟩:=h;exact h
 | slice t =>
  obtain⟨a',cap,h1,_⟩:=id h;simp only[a7A,a7W] at h1;subst h1;exact h
 | mv t =>
  have h1:=Ow.length _ (show Ow w (mvD t.size t.aI y) [x] fp from h);cases hy:(show Option (List t.den) from y) with
  | none =>
   have e:y=(none:Option (List t.den)):=hy;subst e;obtain⟨⟨a',n,m,h1⟩,_⟩:=id h;simp only[a7A,a7W] at h1;subst h1;exact h
  | some l =>
   have e:y=(some l:Option (List t.den)):=hy;subst e;obtain⟨a',cap,h1,_⟩:=id h;simp only[a7A,a7W] at h1;subst h1;exact h
 | ptr=>obtain⟨⟨p,h1⟩,_⟩:=id h;simp only[a7A,a7W] at h1;subst h1;exact h
 | int k=>obtain⟨⟨h1,_⟩,_⟩:=id h;simp only[a7A,a7W] at h1;subst h1;exact h
 | bool=>have h1:=h.1;simp only[a7A,a7W] at h1;subst h1;exact h
 | str=>obtain⟨⟨z,h1,_⟩,_⟩:=id h;simp only[a7A,a7W] at h1;subst h1;exact h
theorem N7(l:List Value)(k:Nat)(v:Value)(h:k<l.length):l.take k++[v]++l.drop (k+1)=l.set k v:=by
 rw[List.set_eq_take_append_cons_drop,a7E h,a8c];rfl
theorem Gz(h:Inv c G s a w){ids:List Nat}{b:Nat}(hb:tT G s.ag ids b):rb c G (ids.foldl ah.gone s).ag w b:=by
 obtain⟨id,hi,hq⟩:=hb;have hp:(c.w0.heap.size<=b\/c.X b)/\¬ G.S b/\b<w.heap.size:=by
  rcases hq with ⟨τ,xs,q1,q2⟩|⟨e,τ,xs,q1,q2⟩
  .obtain⟨p1,p2,p3,_⟩:=h.aN.pl id τ xs b q1 q2;exact⟨p1,p2,p3⟩
  .obtain⟨p1,p2,p3⟩:=h.place id _ b q1 q2;exact⟨p1,p2,p3⟩
 refine⟨hp.1,hp.2.1,hp.2.2,λ i o cd qg=>?_,λ j τ xs hj lb=>?_⟩
 .obtain⟨h1,o',h2,_⟩:=Ey ids cd;rcases hq with ⟨τ,xs,q1,q2⟩|⟨e,τ,xs,q1,q2⟩
  .exact (h.aN.pl id τ xs b q1 q2).2.2.2 i o' h2 qg
  .have:=h.apart i id o' _ b h2 q1 qg q2;subst this;exact h1 hi
 .obtain⟨h1,o',h2,h3⟩:=Ey ids hj;have:=h3 τ xs rfl;subst this;rcases hq with ⟨aT,cF,q1,q2⟩|⟨e,aT,cF,q1,q2⟩
  .have:=h.aN.ap j id _ _ _ _ b h2 q1 lb q2;subst this;exact h1 hi
  .exact (h.aN.pl j τ xs b h2 lb).2.2.2 id _ q1 q2
theorem a0N{l:List Operand}{u v:AV}(h:Inv c G s a w)(hl:l.map s.eval=[u,v]):∃ x y,l.map a.eval=[x,y]/\VR c G s.ag w u x/\VR c G s.ag w v y:=by
 have:=aM.iL (aX h) l;rw[hl] at this;match hx:l.map a.eval,this with
 | [x,y],hh=>exact⟨x,y,rfl,hh.1,hh.2.1⟩
theorem AX{lk:Nat->Option aw}{id i sz:Nat}(hit:cU (lk id)=true){a0:Option Addr}{n cap:Nat}{l:List Value}(eI:G.η id = .tuple (.slice a0 n cap::l).toArray)(ff:i<n):∀ (us:List TV) (j:Nat) (cs:List Value) (fp:List Nat),(∀ u∈us,Uc u.τ=true) ->
  cW w (us.map TV.aI) cs fp->(∀ k x,cs[k]?=some x->l[i * sz+(j+k)]?=some x)->aM (C1 c G lk w) (Iq id i sz j us) cs
 | [],j,cs,fp,_,h,_=>by
  obtain⟨rfl,_⟩:=h;trivial
 | ⟨τ,y⟩::us,j,cs,fp,hok,h,hl=>by
  obtain⟨v,r,f1,f2,rfl,rfl,h3,h4⟩:=h;have ih:=AX hit eI ff us (j+1) r f2 (λ u hu=>hok u (List.mem_cons_of_mem _ hu)) h4 (λ k x hk=>by have:=hl (k+1) x (by simpa using hk);rwa [show j+(k+1)=j+1+k by omega] at this);have ho:Uc τ=true:=hok ⟨τ,y⟩ (by simp);have hv:=hl 0 v rfl;refine⟨?_,ih⟩;cases τ with
  | slice t =>
   refine⟨hit,_,_,_,_,eI,ff,hv,?_⟩;obtain⟨a',Mj,q,_⟩:=h3;simp only[a7A,a7W] at q;exact⟨_,_,_,q⟩
  | mv t=>cases ho
  | st s=>cases ho
  | int k=>exact⟨rfl,h3.1⟩
  | bool=>exact⟨rfl,h3.1⟩
  | str=>exact⟨rfl,h3.1⟩
  | ptr=>exact⟨rfl,h3.1⟩
theorem U2(hE:bo c.P c.E)(h:Inv c G s a w){o:Oper}{vc:Vc}{s':ah}(hq:Rs c.E s o=some (vc,s'))(dO:vc.ok){Q:Exit->Act->World->Prop} :
  o.wp c.P a w (λ a' w'=>∃ G',Inv c G' s' a' w') Q:=by
 unfold Rs at hq;split at hq;case h_1 T x ix bh =>
  split at hq;case h_2=>cases hq
  case h_1 τ r hT =>
  split at hq;case h_2=>cases hq
  case h_1 k i id hi hx =>
  split at hq;case h_2=>cases hq
  case h_1 aT xs aO =>
  split at hq;case h_2=>cases hq
  case h_1 ei =>
  have bW:aT.size=τ.size:=by
   simp only[a9c] at ei;rcases ei with ei|ei
   .rw[a7Z ei]
   .unfold Ty.a2G at ei;split at ei
    .rename_i p q;have e:=congrArg List.length (a7Z ei);rw[a8n] at e;have e1:=congrArg List.length (aJ.iD p p.zero);have e2:=congrArg List.length (aJ.iD q q.zero);rw[a8n,aJ.fv] at e1 e2;simp only[Ty.size];omega
    .cases ei
  simp only[a7v,a7x] at hq;obtain⟨rfl,rfl⟩:=hq;have fW:=aX h ix;rw[hi] at fW;obtain⟨fW,_⟩:=fW;simp only[a7A,a7W] at fW;have hv:=aX h x;rw[hx] at hv;obtain⟨hit,l,eI,ad,m,cap,wa⟩:=hv;obtain⟨h0,h1⟩:=dO;have hTr:=h.aN.tr id aT xs aO;rw[wa] at eI;have hm:m=xs.length:=by
   obtain⟨v0,l0,a1,Pq,q1,q2,_⟩:=hTr;rw[eI] at q1;simp only[a8Z] at q1;have q1:(Value.slice ad m cap::l)=v0::l0:=congrArg Array.toList q1;simp only[a7A] at q1;rw[q2] at q1;simp only[a9k] at q1;exact q1.1.2.1
  subst hm;obtain⟨_,b,f,t,e1,_⟩:=rM hTr eI (i:=i.toNat) (by omega);subst e1;refine xK h (x := .pointer (some ⟨b,0+i.toNat * τ.size,none⟩)) ?_ ⟨hit,b,_,cap,l,eI,by omega,by simp⟩;simp only[execOp,bh,wa,fW,a7U,nu hE hT h0 h1,a7N,a7S]
 case h_2 T x i bh =>
  split at hq;case h_2=>cases hq
  case h_1 st r hT =>
  split at hq;case h_2=>cases hq
  case h_1 id k off sz hx =>
  split at hq;case h_2=>cases hq
  case h_1 bp =>
  simp only[Option.some.injEq,Prod.mk.injEq] at hq;obtain⟨rfl,rfl⟩:=hq;simp only[Bool.and_eq_true,Bool.not_eq_true'] at bp;have ha:=bp.1;have bp:i<st.dr.length:=by simpa [Nat.blt_eq] using bp.2
  have hv:=aX h x;rw[hx] at hv;obtain⟨h1,b,m,cap,l,h2,h3,h4⟩:=hv;refine xK h (x := .pointer (some ⟨b,k * sz+(off+st.dB i),none⟩)) ?_ ⟨h1,b,m,cap,l,h2,h3,rfl⟩;simp only[execOp,bh,h4,a7U,yK hE hT ha bp,a7N,a7S,b0f]
 case h_3 T ad bh =>
  split at hq;case h_2=>cases hq
  case h_1 τ r hT =>
  split at hq;case h_2=>cases hq
  case h_1 id i off sz hx =>
  split at hq;case h_2=>cases hq
  case h_1 aT xs aO =>
  split at hq;case h_2 =>
   unfold SR at hq;split at hq;case h_2=>cases hq
   case h_1 q gZ =>
   clear gZ;split at hq;case h_2=>cases hq
   case h_1 y hb hy =>
   simp only[a7v,a7x] at hq;obtain⟨rfl,rfl⟩:=hq;have W5:aT = .st q/\HEq (xs.getD i aT.zero) y:=by
    have e:=TV.aR hy;simp only[TV.mk.injEq] at e;exact e
   obtain⟨rfl,e2⟩:=W5;have e2:=b0k e2;simp only[a7H] at hb;obtain⟨yq,EW,MQ⟩:=hb;have yq:=a7w yq;have EW:=a7w EW;subst yq EW;have hv:=aX h ad;rw[hx] at hv;obtain⟨h1,b,m,cap,l,h2,h3,h4⟩:=hv;have Sl:=h.aN.tr id _ xs aO;obtain⟨hn,b',f,t,e1,M8,hh,eO⟩:=rM Sl h2 h3;simp only[a7v,a9n,a7W] at e1;subst e1;have Db:i<xs.length:=by omega
   have Bd:l.length=cap * q.size/\xs.length<=cap:=by
    obtain⟨v0,l0,a1,Pq,k1,k2,k3,k4,k5,k6⟩:=Sl;rw[h2] at k1;simp only[a8Z] at k1;have k1:(Value.slice (some ⟨b,0,none⟩) m cap::l)=v0::l0:=congrArg Array.toList k1;simp only[a7A] at k1;obtain⟨k7,rfl⟩:=k1;rw[k2] at k7;simp only[a9k] at k7;obtain⟨_,_,rfl⟩:=k7;rcases k6 with ⟨rfl,_,_⟩|⟨_,_,_,_,_,_,k8,_⟩
    .simp at Db
    .exact⟨k8,k3⟩
   have bW:∀ d∈xs.map (Ty.aI (.st q)),d.size=q.size:=λ d hd=>by
    obtain⟨z,_,rfl⟩:=a7B.1 hd;exact Ty.cm (.st q) z
   obtain⟨f0,f1,f2,hf,m0,m1,m2⟩:=bI.split (xs.map (Ty.aI (.st q))) i (Ty.aI (.st q) (xs.getD i (Ty.zero (.st q)))) eO bW (by simp[List.getD,Db]);have qV:((l.drop (i * q.size)).take q.size).length=q.size:=by
    rw[a8D,a8J,Bd.1];have:i * q.size+q.size<=cap * q.size:=by rw[<-Nat.succ_mul];exact a9f _ (by omega)
    omega
   have m1:cW w ((q.cells y).map TV.aI) ((l.drop (i * q.size)).take q.size) f1:=by
    have:=m1;rw[show Ty.aI (.st q) (xs.getD i (Ty.zero (.st q)))=q.aI (xs.getD i (Ty.zero (.st q))) from rfl,aJ.bR] at this;rw[<-e2];exact this
   have J2:∀ k x,((l.drop (i * q.size)).take q.size)[k]?=some x->l[i * q.size+k]?=some x:=λ k x hk=>by
    rw[a8O] at hk;split at hk
    .rwa [a9C] at hk
    .cases hk
   have lf:bn w b (i * q.size+0) ((l.drop (i * q.size)).take q.size):=λ j z hj=>by
    simp[World.cell?,hh,J2 j z hj]
   refine xK h (x := .agg ((l.drop (i * q.size)).take q.size).toArray) ?_ ⟨_,rfl,AX h1 h2 h3 (q.cells y) 0 _ f1 (λ u hu=>?_) m1 (λ k x hk=>by rw[a8W];exact J2 k x hk)⟩
   .simp only[execOp,bh,h4,a7U,gD hE hT lf qV,a7N,a7S];rfl
   .have:u.τ∈q.my:=by rw[<-aJ.iD q y];exact a7B.2 ⟨u,hu,rfl⟩
    exact a8g.1 MQ _ this
  case h_1 u hu hb =>
  simp only[Bool.and_eq_true,Bool.not_eq_true'] at hb;obtain⟨yq,EW,MQ⟩:=hb;have yq:=Nat.eq_of_beq_eq_true yq;subst yq;have MQ:off<aT.size:=by simpa [Nat.blt_eq] using MQ
  have hv:=aX h ad;rw[hx] at hv;obtain⟨h1,b,m,cap,l,h2,h3,h4⟩:=hv;obtain⟨rfl,v,f1,p1,p2,_⟩:=Vp (h.aN.tr id aT xs aO) (h.aN.nd id aT xs aO) h2 h3 hu EW MQ;obtain⟨_,b',f,t,e1,_,hh,_⟩:=rM (h.aN.tr id aT xs aO) h2 h3;simp only[a7v,a9n,a7W] at e1;subst e1;have lf:bn w b (i * aT.size+off) [v]:=λ j z hj=>by
   cases j with
   | zero =>
    simp at hj;subst hj;simp[World.cell?,hh,p1]
   | succ j=>simp at hj
  have UG:τ.size=1:=Ty.eK EW;have cC:(execOp a.eval o).run c.P w = .ok (.value (xy τ [v])) w:=by
   simp only[execOp,bh,h4,a7U,gD hE hT lf (by rw[UG];rfl),a7N,a7S]
  have hmk:xy τ [v]=v:=by cases τ<;>first|rfl|cases EW
  rw[hmk] at cC;have Xb:u.τ=τ:=by
   unfold TV.part at hu;split at hu
   .rename_i gv;simp only[a7H] at gv;simp only[a7v] at hu;rw[<-hu];exact a7Z gv.2
   .split at hu
    .split at hu
     .rename_i hd;simp only[a7v] at hu;rw[<-hu];exact a7Z hd
     .cases hu
    .cases hu
  split at hq;case h_1 xi =>
   simp only[a7v,a7x] at hq;obtain⟨rfl,rfl⟩:=hq;refine xK h cC ?_;obtain⟨TL,yu⟩:=u;have Xb:TL=τ:=Xb;subst Xb;have hl:(Ty.aI TL yu).light=true:=pn xi yu;have hr:Rd w G.S (Ty.aI TL yu) [v]:=by
    cases TL with
    | int k=>exact p2.1
    | bool=>exact p2.1
    | str=>exact p2.1
    | slice t=>cases xi
    | mv t=>cases xi
    | ptr=>exact p2.1
    | st s=>cases xi
   cases TL with
   | mv t=>cases xi
   | st s=>cases xi
   | slice t=>cases xi
   | _=>exact hr
  case h_2 xi =>
   simp only[a7v,a7x] at hq;obtain⟨rfl,rfl⟩:=hq;refine xK h cC ⟨h1,_,_,cap,l,h2,h3,p1,?_⟩;obtain⟨TL,yu⟩:=u;have Xb:TL=τ:=Xb;subst Xb;cases TL with
   | slice t =>
    obtain⟨a',Mj,q,_⟩:=p2;simp only[a7A,a7W] at q;exact⟨_,_,_,q⟩
   | st s=>cases EW
   | mv t =>
    cases hy:(show Option (List t.den) from yu) with
    | none =>
     have e:yu=(none:Option (List t.den)):=hy;subst e;obtain⟨⟨a',n,m,q⟩,_⟩:=p2;simp only[a7A,a7W] at q;exact⟨_,_,_,q⟩
    | some l =>
     have e:yu=(some l:Option (List t.den)):=hy;subst e;obtain⟨a',Mj,q,_⟩:=p2;simp only[a7A,a7W] at q;exact⟨_,_,_,q⟩
   | int k=>cases xi
   | bool=>cases xi
   | str=>cases xi
   | ptr=>cases xi
 case h_4 T ad x bh =>
  split at hq;case h_2=>cases hq
  case h_1 τ r hT =>
  split at hq;case h_2=>cases hq
  case h_1 id i off sz hx =>
  split at hq;case h_2=>cases hq
  case h_1 aT xs aO =>
  split at hq;case h_2=>cases hq
  case h_1 hb =>
  simp only[Bool.and_eq_true] at hb;obtain⟨yq,MQ⟩:=hb;have yq:=Nat.eq_of_beq_eq_true yq;subst yq;have MQ:off<aT.size:=by simpa [Nat.blt_eq] using MQ
  have hp:=aX h ad;rw[hx] at hp;have Q7:=aX h x;have ff:i<xs.length:=by
   obtain⟨_,b,m,cap,l,h2,h3,_⟩:=hp;obtain⟨h4,_⟩:=rM (h.aN.tr id aT xs aO) h2 h3;omega
  split at hq;case h_1 xi =>
   split at hq;case h_2=>cases hq
   case h_1 u j hu =>
   split at hq;case h_2=>cases hq
   case h_1 u0 y hu0 hy =>
   simp only[a7v,a7x] at hq;obtain⟨rfl,rfl⟩:=hq;have y9:τ.agg=false:=by cases τ<;>first|rfl|cases xi
   have UG:τ.size=1:=Ty.eK y9;have lf:(a.eval x).cells.toList=[a.eval x]/\(a.eval x).oneCell'=true/\Ow w (τ.aI u) [a.eval x] []:=by
    have hc:C1 c G s.ag w (s.eval x) (a.eval x)/\(s.eval x).cell=true:=by
     have hcc:(s.eval x).cell=true:=by
      revert hu;cases cw:s.eval x with
      | aQ v =>
       intro hu;simp only[eA] at hu;split at hu
       .rename_i M6;have e:=TV.aR M6;subst e;cases τ<;>first|rfl|cases y9
       .cases hu
      | nil=>intro hu;cases τ<;>first|(cases xi;done)|(cases hu;done)
      | aC id=>intro hu;simp[eA] at hu
      | row id=>intro hu;simp[eA] at hu
      | _=>intro hu;cases hu
     exact⟨Q7.P7 hcc,hcc⟩
    obtain⟨q1,q2⟩:=hc.1.leaf hc.2;refine⟨by rw[q2],q1,?_⟩;revert hu;have MR:=hc.1;revert MR;cases s.eval x with
    | aQ v =>
     intro MR hu;simp only[eA] at hu;split at hu
     .rename_i a5V M6;have e:=TV.aR M6;subst e;simp only[a7v,a7x] at hu;rw[<-hu.1];exact Ow.eu (S:=G.S) _ (pn a5V _) MR.2
     .cases hu
    | nil=>intro _ hu;cases τ<;>first|(cases xi;done)|(cases hu;done)
    | aC id=>intro _ hu;simp[eA] at hu
    | row id=>intro _ hu;simp[eA] at hu
    | _=>intro _ hu;cases hu
   obtain⟨c1,c2,c3⟩:=lf;obtain⟨w',G',k1,k2⟩:=Od hE h hT aO hp (y:=y) (x:=a.eval x) (by omega) (by rw[c1,UG];rfl) (by rw[c1];simpa using c2) (λ b f l w' M8 hlen eO xg=>by
    have bW:∀ d∈xs.map aT.aI,d.size=aT.size:=by
     intro d hd;obtain⟨z,_,rfl⟩:=a7B.1 hd;exact Ty.cm aT z
    have cX:=h.aN.nd id aT xs aO;rw[M8,a8b] at cX;obtain⟨WY,MX⟩:=cX;have iG:∀ k∈f,w'.heap[k]?=w.heap[k]?:=λ k hk=>xg k λ e=>WY (e ▸ hk);obtain⟨g0,g1,g2,rfl,_,m1,m2⟩:=bI.split (xs.map aT.aI) i (aT.aI (xs.getD i aT.zero)) eO bW (by simp[List.getD,ff]);obtain⟨v,p0,p1,p2,rfl,q1,q2,q3⟩:=Kg hu0 y9 m1;have hy2:=q3 w' ⟨τ,u⟩ y (a.eval x) [] hy (λ k hk=>iG k (by simp at hk ⊢;rcases hk with hk|hk<;>simp[hk])) (c3.aK _ (by simp));have hr:=m2 w' (aT.aI y) _ (p0++[]++p2) (λ k hk=>iG k (by simp at hk ⊢;rcases hk with hk|hk<;>simp[hk])) (by simp only[a8A,a8D,a8J];omega) hy2;rw[Tk l _ _ _ _ MQ hlen,<-b0Y] at hr;refine⟨_,by rw[c1,UG,N7 _ _ _ (by omega)];exact hr,?_,λ hk=>WY ?_,λ k hk => .inl ?_⟩
    .refine vD (f1:=p0++p1++p2) MX (vD (f1:=p1) ?_ a8F (by simp)) (λ k hk => .inl (by simp at hk ⊢;rcases hk with hk|hk<;>simp[hk]));rw[a7Q,a7Q] at MX;exact MX.1.2.1
    .simp at hk ⊢;rcases hk with hk|hk|hk|hk<;>simp[hk]
    .simp at hk ⊢;rcases hk with hk|hk|hk|hk<;>simp[hk])
   exact BY bh k1 k2
  case h_2 xi =>
   split at hq;case h_2=>cases hq
   case h_1 y ids na ht =>
   split at hq;case h_2=>cases hq
   case h_1 y' cX M6 =>
   simp only[a7v,a7x] at hq;obtain⟨rfl,rfl⟩:=hq;have na:=a7w na;subst na;have e:=TV.aR M6;have et:τ=aT:=congrArg TV.τ e;subst et;cases e;have cX:=dh cX;rw[a8b] at cX;obtain⟨a2u,a1g⟩:=cX;obtain⟨fq,o1,o2,o3⟩:=px h ht Q7 a1g;have ij:=vL.cells o1;have hlen:=Ow.length _ ij;rw[Ty.cm] at hlen;have h1:=sH ids h;have PN:=J0 ids aO a2u;obtain⟨_,b0,m0,a4T,l0,a6a,OJ,hp0⟩:=hp;obtain⟨w',G',k1,k2⟩:=Od hE h1 hT PN (i:=i) (off:=0) (p:=a.eval ad) ⟨by rw[PN];rfl,b0,m0,a4T,l0,a6a,OJ,hp0⟩ (y:=y) (x:=a.eval x) (by omega) hlen
    (Rd.jb (S:=λ b=>b∈fq) (x:=y) (Ow.rd _ ij λ b hb=>hb)) (λ b f l w' M8 a6E eO xg=>by
    have bW:∀ d∈xs.map τ.aI,d.size=τ.size:=by
     intro d hd;obtain⟨z,_,rfl⟩:=a7B.1 hd;exact Ty.cm τ z
    have V1:=h.aN.nd id τ xs aO;rw[M8,a8b] at V1;obtain⟨WY,MX⟩:=V1;have iG:∀ k∈f,w'.heap[k]?=w.heap[k]?:=λ k hk=>xg k λ e=>WY (e ▸ hk);have uG:∀ k∈fq,k∉b::f:=λ k hk fg=>by
     refine h.iH (o3 k hk) (j:=[id]) ⟨id,by simp, .inl ⟨τ,xs,aO,by rw[M8];exact fg⟩⟩ λ x1 Q6 y1 OO e=>?_;simp only[a7O] at OO;exact a2u (by rw[<-OO,<-e];exact Q6)
    obtain⟨g0,g1,g2,rfl,_,m1,m2⟩:=bI.split (xs.map τ.aI) i (τ.aI (xs.getD i τ.zero)) eO bW (by simp[List.getD,ff]);have hr:=m2 w' (τ.aI y) (a.eval x).cells.toList fq (λ k hk=>iG k (by simp at hk ⊢;rcases hk with hk|hk<;>simp[hk])) hlen (ij.aK _ λ k hk=>xg k λ e=>uG k hk (by simp[e]));rw[<-b0Y] at hr;refine⟨g0++fq++g2,by rw[a9u];exact hr,?_,λ hk=>?_,λ k hk=>?_⟩
    .rw[a7Q,a7Q] at MX;obtain⟨⟨n1,n2,n3⟩,n4,n5⟩:=MX;refine dV (dV n1 o2 λ k hk fg=>uG k fg (by simp[hk])) n4 λ k hk fg=>?_;rcases a7y.1 hk with hk|hk
     .exact n5 k (a7y.2 (.inl hk)) k fg rfl
     .exact uG k hk (by simp[fg])
    .rcases a7y.1 hk with hk|hk
     .rcases a7y.1 hk with hk|hk
      .exact WY (by simp[hk])
      .exact uG b hk (by simp)
     .exact WY (by simp[hk])
    .rcases a7y.1 hk with hk|hk
     .rcases a7y.1 hk with hk|hk
      .exact .inl (by simp[hk])
      .exact .inr (Gz h (o3 k hk))
     .exact .inl (by simp[hk]))
   exact BY bh k1 k2
 case h_5 T l cc bh =>
  split at hq;case h_2=>cases hq
  case h_1 d τ b e hd hT =>
  split at hq;case h_2=>cases hq
  case h_1 dA =>
  have a5H:d<50\/100<=d:=by
   simp only[a7H,a9c] at dA;rcases dA.2 with q|q
   .exact .inl (by simpa [Nat.blt_eq] using q)
   .exact .inr (a8w q)
  split at hq;case h_2=>cases hq
  case h_1 n m hn hm =>
  simp only[a7v,a7x] at hq;obtain⟨rfl,rfl⟩:=hq;have hl:=aX h l;have hc:=aX h cc;rw[hn] at hl;rw[hm] at hc;obtain⟨hl,_⟩:=hl;obtain⟨hc,_⟩:=hc;simp only[a7A,a7W] at hl hc;obtain⟨v1,v2,v3,v4⟩:=Kb dO;obtain⟨h1,_,i,z,h3,h4,h5,h6,h7⟩:=hE.slice hT;have hzo:=a0J (c:=c) (G:=G) (s:=s) (w:=w.alloc (.cells (madeCells z.cells (m.toNat * i.size)) e)) h7;have Xd:=Ow.length _ hzo;rw[Ty.cm,a8q] at Xd;have hr:=run_make (P:=c.P) w T e i z h1 h3 h6 .i64 .i64 n m v1 v2 (by rw[h5];omega) (by omega);have hI:=bf.alloc (Iu h d) (.cells (madeCells z.cells (m.toNat * i.size)) e);have oj:(s.gone d).ag d=none:=by rw[yB,a7E rfl]
  obtain⟨r1,r2⟩:=hI.NI oj;have eO:bI (w.alloc (.cells (madeCells z.cells (m.toNat * i.size)) e)) ((List.replicate n.toNat τ.zero).map τ.aI) (madeCells z.cells (m.toNat * i.size)).toList []:=by
   rw[b1L];have hle:n.toNat * z.cells.size<=m.toNat * i.size:=by rw[h4,Xd];exact a9f _ (by omega)
   have:=bI.more _ ((madeCells z.cells (m.toNat * i.size)).toList.drop (n.toNat * z.cells.size)) (DH hzo n.toNat);rwa [<-zF _ _ _ hle,a9a] at this
  have Sl:gL (w.alloc (.cells (madeCells z.cells (m.toNat * i.size)) e)) (.tuple (.slice (some ⟨w.heap.size,0,none⟩) n.toNat m.toNat::(madeCells z.cells (m.toNat * i.size)).toList).toArray) τ (List.replicate n.toNat τ.zero) [w.heap.size] :=
   ⟨_,_,some ⟨w.heap.size,0,none⟩,m.toNat,rfl,by simp,by simp;omega,by simp only[maxLen];omega,by simp;omega, .inr ⟨w.heap.size,[],e,rfl,rfl,by simpa using heap_alloc_new w (.cells (madeCells z.cells (m.toNat * i.size)) e),by simp[madeCells,h4],eO⟩⟩
  have hN:=hI.NF d τ (List.replicate n.toNat τ.zero) _ [w.heap.size] oj r1 r2 (by
   cases hr:c.R d with
   | none=>rfl
   | some v =>
    have h1:=h.fE d v hr;rcases a5H with q|q
    .exact absurd h1.1 (Nat.not_le.2 q)
    .exact absurd h1.2 (Nat.not_lt.2 q)) Sl (by simp) (λ k hk=>by
   simp only[a7O] at hk;subst hk;have hg:=Iu h d;refine⟨.inl h.aK.size,λ hs=>b0g _ (h.dy _ hs),by simp,λ i o cd qg=>?_,λ j iP kQ hj lb=>?_⟩
   .exact b0g _ (hg.place i o _ cd qg).2.2
   .exact b0g _ (hg.aN.pl j iP kQ _ hj lb).2.2.1)
  unfold Oper.wp;have cC:(execOp a.eval o).run c.P w = .ok (.value (.slice (some ⟨w.heap.size,0,none⟩) n.toNat m.toNat)) (w.alloc (.cells (madeCells z.cells (m.toNat * i.size)) e)):=by
   simp only[execOp,bh,hl,hc,a7U,hr,a7N,a7S]
  rw[cC];have key:=bf.put (d:=some d) (v := .aC d) (x := .slice (some ⟨w.heap.size,0,none⟩) n.toNat m.toNat) hN ⟨by simp[cU],_,by simp;rfl,_,_,_,rfl⟩;have bP:ah.ag { aA:=(s.gone d).aA.set d (.aC d),aH:=(d, .aC τ (List.replicate n.toNat τ.zero))::(s.gone d).aH }=λ i=>if i=d then some (.aC τ (List.replicate n.toNat τ.zero)) else (s.gone d).ag i:=by
   funext i;exact dj _ _ _ _
  have conv:∀ G',bf c G' (iz (s.gone d).aA.length (s.gone d).sl (some d) (.aC d)) (s.gone d).aA.length (λ i=>if i=d then some (.aC τ (List.replicate n.toNat τ.zero)) else (s.gone d).ag i) (a.put (some d) (.slice (some ⟨w.heap.size,0,none⟩) n.toNat m.toNat)) (w.alloc (.cells (madeCells z.cells (m.toNat * i.size)) e))->Inv c G' { aA:=(s.gone d).aA.set d (.aC d),aH:=(d, .aC τ (List.replicate n.toNat τ.zero))::(s.gone d).aH } (a.put o.dst (.slice (some ⟨w.heap.size,0,none⟩) n.toNat m.toNat)) (w.alloc (.cells (madeCells z.cells (m.toNat * i.size)) e)):=by
   intro G' hh;unfold Inv;rw[bP,hd,show ah.sl { aA:=(s.gone d).aA.set d (.aC d),aH:=(d, .aC τ (List.replicate n.toNat τ.zero))::(s.gone d).aH }=iz (s.gone d).aA.length (s.gone d).sl (some d) (.aC d) from nz _ d _ _,
    show ({ aA:=(s.gone d).aA.set d (.aC d),aH:=(d, .aC τ (List.replicate n.toNat τ.zero))::(s.gone d).aH }:ah).aA.length=(s.gone d).aA.length from by simp]
   exact hh
  exact⟨_,conv _ key⟩
 case h_6 cl bh =>
  split at hq;case h_1 e9 =>
   split at hq;case h_2=>cases hq
   case h_1 T id MO Bj =>
   split at hq;case h_2=>cases hq
   case h_1 t r _ τ xs hT aO =>
   simp only[a7v,a7x] at hq;obtain⟨rfl,rfl⟩:=hq;have dE:=aM.iL (aX h) cl.args.toList;rw[Bj] at dE;match jJ:cl.args.toList.map a.eval,dE with
   | [x],dE =>
    obtain⟨_,l,eI,ad,m,cap,wa⟩:=dE.1;have hm:m=xs.length/\xs.length<=140737488355328:=by
     obtain⟨v0,l0,a1,Pq,q1,q2,_,_,q5,_⟩:=h.aN.tr id τ xs aO;rw[eI,wa] at q1;simp only[a8Z] at q1;have q1:(Value.slice ad m cap::l)=v0::l0:=congrArg Array.toList q1;simp only[a7A] at q1;rw[q2] at q1;simp only[a9k] at q1;exact⟨q1.1.2.1,q5⟩
    obtain⟨rfl,hmx⟩:=hm;have GQ:cl.argTypes = #[T]:=by rw[<-a8v (xs:=cl.argTypes),MO]
    have Bk:cl.args.map a.eval = #[x]:=by rw[<-a8v (xs:=cl.args.map a.eval),a9q,jJ]
    have MU:(execOp a.eval o)=(do let d <-resolve a.eval cl o.type;invoke d.target d.args):=by simp[execOp,bh]
    have GW:(execOp a.eval o).run c.P w=((Builtin.len_ #[T] o.type #[x]).run c.P w).andThen λ v w => .ok (.value v) w:=by
     rw[MU];simp[resolve,e9,invoke,builtin,GQ,Bk]
    obtain⟨k1,_,_⟩:=hE.slice hT;have OG:∃ q,c.P.elem T=q/\c.P.underlying T=some (.slice q):=⟨_,by simp[Program.elem,k1],k1⟩;obtain⟨q,OG,k1⟩:=OG;refine xK h (x := .int .i64 xs.length) ?_ (a1B ⟨by omega,by omega⟩);rw[GW,wa,run_len_slice w T o.type ad xs.length cap (by rw[OG];exact k1)];rfl
  case h_2 f e9 =>
   split at hq;case h_2=>cases hq
   case h_1 d hd =>
   split at hq;case h_2=>cases hq
   split at hq;case h_1 m hm =>
    cases hq
   case h_2 hm =>
    split at hq;case h_2=>cases hq
    case h_1 Z9 has =>
    split at hq;case h_2=>cases hq
    case h_1 pre res hc =>
    split at hq;case h_2=>cases hq
    case h_1 hb =>
    simp only[Option.some.injEq,Prod.mk.injEq] at hq;obtain⟨rfl,rfl⟩:=hq;simp only[Bool.and_eq_true,List.all_eq_true] at hb;exact NM hE h has (aM.iL (aX h) cl.args.toList) hc dO hd (λ p hp=>by simpa using hb.1 p hp) (dh hb.2) (by omega) (λ oi=>fM bh e9 rfl oi)
  case h_3=>cases hq
 case h_7=>cases hq
end
section
variable {w:World}
theorem bI.join{n:Nat}:∀ (ds:List D) {l:List Value} {fp:List Nat},bI w ds l fp->(∀ d∈ds,d.size=n) ->
  ds.length * n<=l.length/\∀ (es:List D) (m:List Value) (f2:List Nat),bI w es m f2->bI w (ds++es) (l.take (ds.length * n)++m) (fp++f2)
 | [],l,fp,h,_=>by
  have h:fp=[]:=h;subst h;exact⟨by simp,λ es m f2 k=>by simpa using k⟩
 | d::ds,l,fp,h,hn=>by
  obtain⟨c,r,f1,f2,rfl,rfl,h3,h4⟩:=h;have hc:c.length=n:=by rw[Ow.length d h3];exact hn d (by simp)
  obtain⟨k1,k2⟩:=bI.join ds h4 λ d hd=>hn d (by simp[hd]);have e:(d::ds).length * n=c.length+ds.length * n:=by rw[a7I,a8B,hc];omega
  refine⟨by rw[e,a7K];omega,λ es m f3 k=>?_⟩;refine⟨c,r.take (ds.length * n)++m,f1,f2++f3,?_,by simp,h3,k2 es m f3 k⟩;rw[e,wv,a8c]
theorem bI.rdL{n:Nat}:∀ (ds:List D) {l:List Value} {fp:List Nat},bI w ds l fp->(∀ d∈ds,d.size=n)->cZ w (λ _=>True) ds (l.take (ds.length * n))
 | [],l,fp,h,_=>by simp[cZ]
 | d::ds,l,fp,h,hn=>by
  obtain⟨c,r,f1,f2,rfl,rfl,h3,h4⟩:=h;have hc:c.length=n:=by rw[Ow.length d h3];exact hn d (by simp)
  have e:(d::ds).length * n=c.length+ds.length * n:=by rw[a7I,a8B,hc];omega
  exact⟨c,r.take (ds.length * n),by rw[e,wv],Ow.rd d h3 λ _ _=>trivial,bI.rdL ds h4 λ d hd=>hn d (by simp[hd])⟩
theorem Fi{τ:Ty}(xs:List τ.den):∀ d∈xs.map τ.aI,d.size=τ.size:=by
 intro d hd;obtain⟨z,_,rfl⟩:=a7B.1 hd;exact Ty.cm τ z
theorem JV{g k:Nat}{l:List Value}{t:TypeId}(h:w.heap[g]?=some (.cells l.toArray t (0,0))):∀ j v,(l.take k)[j]?=some v->w.cell? ((⟨g,0,none⟩:Addr).add j)=some v:=by
 intro j v hj;rw[Addr.add_lit];have:=AN (w:=w) (b:=g) (p:=[]) (c:=l.take k) (r:=l.drop k) (t:=t) (by simpa using h) j v hj;simpa using this
theorem HF{P:Program}(t ty e:TypeId)(i:TypeInfo)(ht:P.underlying t=some (.slice e))(hi:P.info? e=some i)
  (g N3 a0c:Nat) (cur:Array Value) (t2:TypeId) (hg:w.heap[g]?=some (.cells cur t2 (0,0)))
  (a:Addr) (m c:Nat) (news:List Value) (hl:news.length=m * i.size) (yv:∀ j u,news[j]?=some u->w.cell? (a.add j)=some u) (h1:∀ u∈news,u.oneCell'=true)
  (yy:N3+m<=a0c) (Bf:N3 * i.size+news.length<=cur.size) :
  (Builtin.append_ #[t,t] ty #[.slice (some ⟨g,0,none⟩) N3 a0c, .slice (some a) m c]).run P w =
   .ok (.slice (some ⟨g,0,none⟩) (N3+m) a0c) (w.setRow g (cur.toList.take (N3 * i.size)++news++cur.toList.drop (N3 * i.size+news.length)).toArray):=by
 have hf:=run_firstCells_some (P:=P) w i.size m a m c news hl yv;have bU:=run_storeCells_at P g (N3 * i.size) t2 news 0 cur w hg (by simpa using Bf) h1;simp only[Nat.add_zero] at bU;simp[Builtin.append_,run_underlying ht,sizeOf,typeInfo,hi,Builtin.lenOf,yy,hf,Addr.add_lit,bU]
theorem PF{τ:Ty}{zs:List τ.den}{q:List Value}{fp:List Nat}{z:Array Value}{cap:Nat}{e:TypeId}(hq:bI w (zs.map τ.aI) q fp)(hql:q.length=zs.length * τ.size)(IK:z.size=τ.size)
  (hc:zs.length<=cap) (hm:cap<=maxLen) (h47:zs.length<=140737488355328) (bp:∀ b∈fp,b<w.heap.size) :
  gL (w.drew.alloc (.cells (q.toArray++Builtin.zeroCells z (cap - zs.length)) e)) (.tuple (.slice (some ⟨w.heap.size,0,none⟩) zs.length cap::(q.toArray++Builtin.zeroCells z (cap - zs.length)).toList).toArray) τ zs (w.heap.size::fp):=by
 refine⟨_,_,some ⟨w.heap.size,0,none⟩,cap,rfl,rfl,hc,hm,h47, .inr ⟨w.heap.size,fp,e,rfl,rfl,?_,?_,?_⟩⟩
 .rw[a8v];exact a8Q w.drew _
 .simp only[b1F,a7K,hql,a8q,size_zeroCells,IK];rw[<-a8B];congr 1;omega
 .rw[b1F];have hk:∀ b∈fp,(w.drew.alloc (.cells (q.toArray++Builtin.zeroCells z (cap - zs.length)) e)).heap[b]?=w.heap[b]?:=λ b hb=>heap_alloc_old w.drew _ b (bp b hb);have:=bI.aK _ hq hk;have more:∀ (ds:List D) {l:List Value} {f:List Nat} (m:List Value),bI (w.drew.alloc (.cells (q.toArray++Builtin.zeroCells z (cap - zs.length)) e)) ds l f->bI (w.drew.alloc (.cells (q.toArray++Builtin.zeroCells z (cap - zs.length)) e)) ds (l++m) f:=by
   intro ds;induction ds with
   | nil=>intro l f m h;exact h
   | cons d ds ih =>
    intro l f m h;obtain⟨cc,r,f1,f2,rfl,hf,h3,h4⟩:=h;exact⟨cc,r++m,f1,f2,by simp,hf,h3,ih m h4⟩
  exact more _ _ this
end
section
variable {c:Ctx} {G:Gh} {sl:Nat->AV} {n:Nat} {lk:Nat->Option aw} {a:Act} {w w':World}
theorem Qh(hE:bo c.P c.E){T:TypeId}{τ:Ty}{b e:Nat}(hT:ag c.E.ty T=some (.slice τ,b,e)){xs ys:List τ.den}{x y:Value}{fx fy:List Nat}
  (hx:Ow w (.slice τ.size (xs.map τ.aI)) [x] fx) (hy:Ow w (.slice τ.size (ys.map τ.aI)) [y] fy) (OK:∀ k∈fx,k<w.heap.size) (hly:∀ k∈fy,k<w.heap.size) (ua:fx.Nodup) (hny:fy.Nodup) (hd:∀ k∈fx,k∉fy)
  (yy:bB (xs.length+ys.length) b) (ty:TypeId) :
  ∃ v' w' fp l,(Builtin.append_ #[T,T] ty #[x,y]).run c.P w = .ok v' w'/\gL w' (.tuple (v'::l).toArray) τ (xs++ys) fp/\(∃ a n m,v' = .slice a n m)/\fp.Nodup/\(∀ k∈fp,k∈fx\/k∈fy\/(w.heap.size<=k/\k<w'.heap.size))/\bJ (λ k=>k∈fx) w w':=by
 obtain⟨k1,⟨b',e',k2⟩,i,zv,k3,k4,k5,k6,k7⟩:=hE.slice hT;have IK:zv.cells.size=τ.size:=by
  have:=Rd.length _ (HZ (w:=w) (S:=λ _=>True) k7);rwa [Ty.cm,a8q] at this
 have Bh:=τ.size_pos;have OM:(xs.length+ys.length) * b<=140737488355328/\xs.length+ys.length<=140737488355328:=by
  unfold bB at yy;rw[Nat.mul_add,Nat.mul_one] at yy;omega
 have G5:xs.length+ys.length<=maxLen:=by simp only[maxLen];omega
 obtain⟨lx,hxT,_⟩:=gL.UY hx;have Xc:=hx;obtain⟨ax,Dp,x1,x2,x3,x4,x5⟩:=hx;obtain⟨ay,R5,y1,y2,y3,y4,y5⟩:=hy;simp only[a7A,a7W,a8n] at x1 x2 x4 y1 y2 y4;subst x1 y1;have same:(Builtin.append_ #[T,T] ty #[.slice ax xs.length Dp, .slice ay ys.length R5]).run c.P w = .ok (.slice ax xs.length Dp) w->ys=[]->∃ v' w' fp l,(Builtin.append_ #[T,T] ty #[.slice ax xs.length Dp, .slice ay ys.length R5]).run c.P w = .ok v' w'/\gL w' (.tuple (v'::l).toArray) τ (xs++ys) fp/\(∃ a n m,v' = .slice a n m)/\fp.Nodup/\(∀ k∈fp,k∈fx\/k∈fy\/(w.heap.size<=k/\k<w'.heap.size))/\bJ (λ k=>k∈fx) w w':=by
  intro hr he;subst he;exact⟨_,w,fx,lx,hr,by simpa using hxT,⟨_,_,_,rfl⟩,ua,λ k hk => .inl hk,bJ.refl _ _⟩
 rcases y5 with ⟨q1,⟨q2,q3⟩,q4⟩|⟨gy,f2,l2,t2,q1,q2,q3,q4,q5⟩
 .have Dc:ys=[]:=by simpa using q1
  subst Dc;refine same ?_ rfl;subst q2;simp[Builtin.append_,a8k k1,sizeOf,typeInfo,k3,Builtin.lenOf,Builtin.firstCells,x2,storeCells];cases ax<;>rfl
 .subst q1 q2;have hsy:=Fi ys;obtain⟨j1,_⟩:=bI.join _ q5 hsy;rw[a8n] at j1;have yw:(l2.take (ys.length * τ.size)).length=ys.length * τ.size:=by rw[a8D];omega
  have sO:∀ u∈l2.take (ys.length * τ.size),u.oneCell'=true:=by
   have:=bI.rdL _ q5 hsy;rw[a8n] at this;exact cZ.jb this
  have yv:=JV (w:=w) (k:=ys.length * τ.size) q3;have Zn:bI w (ys.map τ.aI) (l2.take (ys.length * τ.size)) f2:=by
   have:=(bI.join _ q5 hsy).2 [] [] [] rfl;simpa using this
  rcases x5 with ⟨p1,⟨p2,p3⟩,p4⟩|⟨gx,f1,l1,t1,p1,p2,p3,p4,p5⟩
  .have jJ:xs=[]:=by simpa using p1
   subst jJ p2 p3 p4;by_cases hm:ys=[]
   .refine same ?_ hm;subst hm;simp[Builtin.append_,a8k k1,sizeOf,typeInfo,k3,Builtin.lenOf,Builtin.firstCells,loadCells,loadCellsFrom]
   .have hm0:0<ys.length:=List.length_pos_iff.2 hm;have hr:=run_append_nil (P:=c.P) w T ty e i zv k1 k3 k6 ⟨gy,0,none⟩ ys.length R5 (l2.take (ys.length * τ.size)) (by rw[yw,k4]) yv hm0 (by omega) (by rw[k5];have:=OM.1;simp only[List.length_nil,Nat.zero_add] at this;omega);have hg:=PF (w:=w) (e:=e) (zs:=ys) (cap:=grownCap w ys.length 0 e) Zn yw IK (grownCap_ge w ys.length 0 e) (grownCap_le_maxLen w ys.length 0 e (by simpa using G5)) (by omega) (λ k hk=>hly k (by simp[hk]));refine⟨.slice (some ⟨w.heap.size,0,none⟩) ys.length (grownCap w ys.length 0 e),w.drew.alloc (.cells ((l2.take (ys.length * τ.size)).toArray++Builtin.zeroCells zv.cells (grownCap w ys.length 0 e - ys.length)) e),w.heap.size::f2,_,hr,hg,⟨_,_,_,rfl⟩,?_,?_,⟨rfl,rfl,rfl,by simp,λ k hk _=>heap_alloc_old w.drew _ k hk⟩⟩
    .rw[a8b] at hny ⊢;exact⟨λ hh=>b0g _ (hly _ (by simp[hh])),hny.2⟩
    .intro k hk;rcases a7J.1 hk with rfl|hk
     .exact .inr (.inr ⟨a7P _,by simp⟩)
     .exact .inr (.inl (by simp[hk]))
  .subst p1 p2;have hsx:=Fi xs;obtain⟨i1,i2⟩:=bI.join _ p5 hsx;rw[a8n] at i1 i2;have qk:(l1.take (xs.length * τ.size)).length=xs.length * τ.size:=by rw[a8D];omega
   have MX:(f1++f2).Nodup/\gx∉f1++f2:=by
    rw[a8b] at ua hny;refine⟨a7Q.2 ⟨ua.2,hny.2,λ k hk k' fg e=>?_⟩,λ hh=>?_⟩
    .subst e;exact hd k (by simp[hk]) (by simp[fg])
    .rcases a7y.1 hh with hh|hh
     .exact ua.1 hh
     .exact hd gx (by simp) (by simp[hh])
   have eO:=i2 (ys.map τ.aI) _ f2 Zn;rw[<-a8R] at eO;by_cases Bf:xs.length+ys.length<=Dp
   .have ij:xs.length * i.size+(l2.take (ys.length * τ.size)).length<=l1.toArray.size:=by
     rw[yw,k4,<-a8B,b0P,p4];exact a9f _ Bf
    have hr:=HF (P:=c.P) (w:=w) T ty e i k1 k3 gx xs.length Dp l1.toArray t1 p3 ⟨gy,0,none⟩ ys.length R5 (l2.take (ys.length * τ.size)) (by rw[yw,k4]) yv sO Bf ij;have iG:∀ k,k≠gx->(w.setRow gx (l1.toArray.toList.take (xs.length * i.size)++l2.take (ys.length * τ.size)++l1.toArray.toList.drop (xs.length * i.size+(l2.take (ys.length * τ.size)).length)).toArray).heap[k]?=w.heap[k]?:=λ k hk=>kk w p3 k hk;refine⟨_,_,gx::(f1++f2),(l1.take (xs.length * τ.size)++l2.take (ys.length * τ.size)++l1.drop (xs.length * τ.size+ys.length * τ.size)),hr,?_,⟨_,_,_,rfl⟩,a8b.2 ⟨MX.2,MX.1⟩,?_,⟨rfl,rfl,rfl,by simp[World.setRow],λ k hk dm=>iG k λ e=>dm (by simp[e])⟩⟩
    .refine⟨_,_,some ⟨gx,0,none⟩,Dp,rfl,by simp,by simpa using Bf,x3,by simp;omega, .inr ⟨gx,f1++f2,t1,rfl,rfl,?_,?_,?_⟩⟩
     .have:=b1Q w gx l1.toArray (l1.toArray.toList.take (xs.length * i.size)++l2.take (ys.length * τ.size)++l1.toArray.toList.drop (xs.length * i.size+(l2.take (ys.length * τ.size)).length)).toArray t1 (0,0) p3;rw[this,yw,k4]
     .simp only[a7K,qk,yw,a8J,p4];have:xs.length * τ.size+ys.length * τ.size<=Dp * τ.size:=by rw[<-a8B];exact a9f _ Bf
      omega
     .have hk:∀ k∈f1++f2,(w.setRow gx (l1.toArray.toList.take (xs.length * i.size)++l2.take (ys.length * τ.size)++l1.toArray.toList.drop (xs.length * i.size+(l2.take (ys.length * τ.size)).length)).toArray).heap[k]?=w.heap[k]?:=λ k hk=>iG k λ e=>MX.2 (e ▸ hk);have h2:=bI.aK _ eO hk;have more:∀ (w2:World) (ds:List D) {l:List Value} {f:List Nat} (m:List Value),bI w2 ds l f->bI w2 ds (l++m) f:=by
       intro w2 ds;induction ds with
       | nil=>intro l f m h;exact h
       | cons d ds ih =>
        intro l f m h;obtain⟨cc,r,f1,f2,rfl,hf,h3,h4⟩:=h;exact⟨cc,r++m,f1,f2,by simp,hf,h3,ih m h4⟩
      exact more _ _ _ h2
    .intro k hk;rcases a7J.1 hk with rfl|hk
     .exact .inl (by simp)
     .rcases a7y.1 hk with hk|hk
      .exact .inl (by simp[hk])
      .exact .inr (.inl (by simp[hk]))
   .have hr:=run_append_grow (P:=c.P) w T ty e i zv k1 k3 k6 ⟨gx,0,none⟩ xs.length Dp (l1.take (xs.length * τ.size)) (by rw[qk,k4]) (JV p3) ⟨gy,0,none⟩ ys.length R5 (l2.take (ys.length * τ.size)) (by rw[yw,k4]) yv (by omega) (by omega) (by rw[k5];exact growslice_fits (by omega) OM.1);have hql:(l1.take (xs.length * τ.size)++l2.take (ys.length * τ.size)).length=(xs++ys).length * τ.size:=by rw[a7K,qk,yw,a7K,a8B]
    have hle:(xs++ys).length=xs.length+ys.length:=a7K;have bp:∀ k∈f1++f2,k<w.heap.size:=λ k hk=>by
     rcases a7y.1 hk with hk|hk
     .exact OK k (by simp[hk])
     .exact hly k (by simp[hk])
    have hg:=PF (w:=w) (e:=e) (zs:=xs++ys) (cap:=grownCap w (xs.length+ys.length) Dp e) eO hql IK (by rw[hle];exact grownCap_ge w _ _ e) (grownCap_le_maxLen w _ _ e G5) (by omega) bp;rw[hle] at hg;refine⟨_,w.drew.alloc (.cells ((l1.take (xs.length * τ.size)).toArray++(l2.take (ys.length * τ.size)).toArray++Builtin.zeroCells zv.cells (grownCap w (xs.length+ys.length) Dp e - (xs.length+ys.length))) e),w.heap.size::(f1++f2),_,hr,by simpa [hle] using hg,⟨_,_,_,rfl⟩,?_,?_,⟨rfl,rfl,rfl,by simp,λ k hk _=>heap_alloc_old w.drew _ k hk⟩⟩
    .exact a8b.2 ⟨λ hh=>b0g _ (bp _ hh),MX.1⟩
    .intro k hk;rcases a7J.1 hk with rfl|hk
     .exact .inr (.inr ⟨a7P _,by simp⟩)
     .rcases a7y.1 hk with hk|hk
      .exact .inl (by simp[hk])
      .exact .inr (.inl (by simp[hk]))
end
section
variable {c:Ctx} {G:Gh} {s:ah} {a:Act} {w w':World}
theorem Inv.built(h:Inv c G s a w){ids:List Nat}{d:Nat}{τ:Ty}{zs:List τ.den}{fp:List Nat}{v':Value}{l:List Value}(hk:bJ (λ b=>tT G s.ag ids b) w w')(hT:gL w' (.tuple (v'::l).toArray) τ zs fp)
  (hv:∃ a n m,v' = .slice a n m) (cX:fp.Nodup) (lg:∀ b∈fp,tT G s.ag ids b\/(w.heap.size<=b/\b<w'.heap.size)) (oj:(ids.foldl ah.gone s).ag (bF d)=none) :
  ∃ G',Inv c G' ((ids.foldl ah.gone s).oU d τ zs) (a.put (some d) v') w':=by
 have h1:Inv c G (ids.foldl ah.gone s) a w:=sH ids h;have hF:∀ b,tT G s.ag ids b->rb c G (ids.foldl ah.gone s).ag w b:=λ b hb=>Gz h hb;generalize UG:ids.foldl ah.gone s=s1 at *
 have hblk:∀ b,b<w.heap.size->¬ tT G s.ag ids b->w'.heap[b]?=w.heap[b]?:=λ b hb hn=>hk.block b hb hn;have h2:bf c G s1.sl s1.aA.length s1.ag a w':=by
  refine bf.world (S':=G.S) h1 ⟨hk.os,hk.tape,hk.output,hk.size,λ b hb hn=>hblk b hb λ hi=>hn (hF b hi).1⟩ (λ _ h=>h) (λ _ _=>a9Q) h1.sX (λ b hb=>a7F (h1.dy b hb) hk.size) ?_ ?_ ?_
  .intro b hb;rcases hb with hb|hb
   .exact hblk b (h1.dy b hb) λ hi=>(hF b hi).2.1 hb
   .exact hblk b (a7F hb.1 h1.aK.size) λ hi=>(hF b hi).1.elim (λ q=>by omega) hb.2.1
  .intro id o b ho hb;exact hblk b (h1.place id o b ho hb).2.2 λ hi=>(hF b hi).2.2.2.1 id o ho hb
  .intro id aT cF b ht hb;exact hblk b (h1.aN.pl id aT cF b ht hb).2.2.1 λ hi=>(hF b hi).2.2.2.2 id aT cF ht hb
 obtain⟨r1,r2⟩:=h2.NI oj;have hR:c.R (bF d)=none:=by
  cases hr:c.R (bF d) with
  | none=>rfl
  | some v=>have:=(h.fE _ v hr).2;unfold bF at this;omega
 have h3:=h2.NF (bF d) τ zs _ fp oj r1 r2 hR hT cX (λ b hb=>by
  rcases lg b hb with hi|⟨q1,q2⟩
  .obtain⟨f1,f2,f3,f4,f5⟩:=hF b hi;exact⟨f1,f2,a7F f3 hk.size,f4,f5⟩
  .refine⟨.inl (a8M h1.aK.size q1),λ hs=>?_,q2,λ i o cd qg=>?_,λ j iP kQ hj lb=>?_⟩
   .have:=h1.dy b hs;omega
   .have:=(h1.place i o b cd qg).2.2;omega
   .have:=(h1.aN.pl j iP kQ b hj lb).2.2.1;omega)
 have key:=bf.put (d:=some d) (v := .aC (bF d)) (x:=v') h3 ⟨by simp[cU],l,by simp,hv⟩;have bP:(s1.oU d τ zs).ag=λ i=>if i=bF d then some (.aC τ zs) else s1.ag i:=by
  funext i;exact dj _ _ _ _
 have conv:∀ G',bf c G' (iz s1.aA.length s1.sl (some d) (.aC (bF d))) s1.aA.length (λ i=>if i=bF d then some (.aC τ zs) else s1.ag i) (a.put (some d) v') w'->Inv c G' (s1.oU d τ zs) (a.put (some d) v') w':=by
  intro G' hh;unfold Inv;rw[bP,show (s1.oU d τ zs).sl=iz s1.aA.length s1.sl (some d) (.aC (bF d)) from nz _ d _ _,show (s1.oU d τ zs).aA.length=s1.aA.length from by simp[ah.oU]];exact hh
 exact⟨_,conv _ key⟩
theorem Inv.over{s1:ah}{X:Nat->Prop}(h1:Inv c G s1 a w)(hF:∀ b,X b->rb c G s1.ag w b)(hk:bJ X w w'):bf c G s1.sl s1.aA.length s1.ag a w':=by
 have hblk:∀ b,b<w.heap.size->¬ X b->w'.heap[b]?=w.heap[b]?:=λ b hb hn=>hk.block b hb hn;refine bf.world (S':=G.S) h1 ⟨hk.os,hk.tape,hk.output,hk.size,λ b hb hn=>hblk b hb λ hi=>hn (hF b hi).1⟩ (λ _ h=>h) (λ _ _=>a9Q) h1.sX (λ b hb=>a7F (h1.dy b hb) hk.size) ?_ ?_ ?_
 .intro b hb;rcases hb with hb|hb
  .exact hblk b (h1.dy b hb) λ hi=>(hF b hi).2.1 hb
  .exact hblk b (a7F hb.1 h1.aK.size) λ hi=>(hF b hi).1.elim (λ q=>by omega) hb.2.1
 .intro id o b ho hb;exact hblk b (h1.place id o b ho hb).2.2 λ hi=>(hF b hi).2.2.2.1 id o ho hb
 .intro id aT cF b ht hb;exact hblk b (h1.aN.pl id aT cF b ht hb).2.2.1 λ hi=>(hF b hi).2.2.2.2 id aT cF ht hb
theorem rb.a1u{lk:Nat->Option aw}{b:Nat}(h:rb c G lk w b):¬ SX G lk b:=by
 rintro (hb|⟨id,e,τ,ys,aO,hb⟩|⟨id,τ,ys,aO,hb⟩)
 .exact h.2.1 hb
 .exact h.2.2.2.1 id _ aO hb
 .exact h.2.2.2.2 id τ ys aO hb
theorem tP(h:Inv c G s a w):∀ {fl:List Bool} {Ts:List TypeId} {vs:List AV} {xs:List Value} {own:List (Option TV)} {ids:List Nat},fG c.E s.ag fl Ts vs=some (own,ids)->ids.Nodup->aM (VR c G s.ag w) vs xs ->
  ∃ vX:List (List Nat),aM (λ (o:Option TV) (q:Value×List Nat)=>match o with
   | some v=>vL w v q.1 q.2
   | none=>q.2=[]) own (xs.zip vX)/\vX.length=xs.length/\vX.flatten.Nodup/\∀ b∈vX.flatten,tT G s.ag ids b
 | [],[],[],[],own,ids,ht,_,_=>by
  simp only[fG,a7v,a7x] at ht;obtain⟨rfl,rfl⟩:=ht;exact⟨[],af,rfl,by simp,by simp⟩
 | true::fl,T::Ts,v::vs,x::xs,own,ids,ht,hn,hv=>by
  simp only[fG] at ht;split at ht;case h_2=>cases ht
  case h_1 τ q hT =>
  split at ht;case h_2=>cases ht
  case h_1 y i hy =>
  split at ht;case h_2=>cases ht
  case h_1 r j hr =>
  simp only[a7v,a7x] at ht;obtain⟨rfl,rfl⟩:=ht;rw[a7Q] at hn;obtain⟨n1,n2,n3⟩:=hn;obtain⟨f1,o1,o2,o3⟩:=px h hy hv.1 n1;obtain⟨vX,p1,p2,p3,p4⟩:=tP h hr n2 hv.2;refine⟨f1::vX,⟨o1,p1⟩,by simp[p2],?_,?_⟩
  .rw[List.flatten_cons];exact dV o2 p3 λ b hb cv=>h.iH (o3 b hb) (p4 b cv) (λ x hx y hy=>n3 x hx y hy)
  .intro b hb;rw[List.flatten_cons] at hb;rcases a7y.1 hb with hb|hb
   .exact (o3 b hb).mono λ i hi=>by simp[hi]
   .exact (p4 b hb).mono λ i hi=>by simp[hi]
 | false::fl,T::Ts,v::vs,x::xs,own,ids,ht,hn,hv=>by
  simp only[fG] at ht;split at ht;case h_2=>cases ht
  case h_1 r j hr =>
  simp only[Option.some.injEq,Prod.mk.injEq] at ht;obtain⟨rfl,rfl⟩:=ht;obtain⟨vX,p1,p2,p3,p4⟩:=tP h hr hn hv.2;exact⟨[]::vX,⟨rfl,p1⟩,by simp[p2],by simpa using p3,by simpa using p4⟩
 | [],_::_,_,_,_,_,ht,_,_=>by simp[fG] at ht
 | [],[],_::_,_,_,_,ht,_,_=>by simp[fG] at ht
 | [],[],[],_::_,_,_,_,_,hv=>hv.elim
 | true::_,[],_,_,_,_,ht,_,_=>by simp[fG] at ht
 | false::_,[],_,_,_,_,ht,_,_=>by simp[fG] at ht
 | true::_,_::_,[],_,_,_,ht,_,_=>by simp[fG] at ht
 | false::_,_::_,[],_,_,_,ht,_,_=>by simp[fG] at ht
 | _,_,_::_,[],_,_,_,_,hv=>hv.elim
theorem qv(hE:bo c.P c.E)(h:Inv c G s a w):∀ {own:List (Option TV)} {Ts:List TypeId} {vs:List AV} {xs:List Value} {vX:List (List Nat)} {Z9:List Arg},eJ c.E s.ag own Ts vs=some Z9 ->
  aM (λ (o:Option TV) (q:Value×List Nat)=>match o with
   | some v=>vL w v q.1 q.2
   | none=>q.2=[]) own (xs.zip vX)->vX.length=xs.length->aM (VR c G s.ag w) vs xs->pz c.P w (SX G s.ag) Z9 xs vX.flatten/\∀ a∈Z9,a.Fy=true
 | [],[],[],[],vX,Z9,hm,hO,hl,hv=>by
  simp only[eJ,Option.some.injEq] at hm;subst hm;have:vX=[]:=List.eq_nil_of_length_eq_zero (by simpa using hl);subst this;exact⟨rfl,by simp⟩
 | some y::own,T::Ts,v::vs,x::xs,f::vX,Z9,hm,hO,hl,hv=>by
  simp only[eJ] at hm;split at hm;case h_2=>cases hm
  case h_1 r hr =>
  simp only[Option.some.injEq] at hm;subst hm;obtain⟨q1,q2⟩:=qv hE h hr hO.2 (by simpa using hl) hv.2;refine⟨⟨f,vX.flatten,by simp,hO.1,q1⟩,λ a ha=>?_⟩;rcases List.mem_cons.1 ha with rfl|ha
  .rfl
  .exact q2 a ha
 | none::own,T::Ts,v::vs,x::xs,f::vX,Z9,hm,hO,hl,hv=>by
  simp only[eJ] at hm;split at hm;case h_2=>cases hm
  case h_1 y hy =>
  split at hm;case h_2=>cases hm
  case h_1 r J5 hr =>
  simp only[Option.some.injEq] at hm;subst hm;obtain⟨q1,q2⟩:=qv hE h hr hO.2 (by simpa using hl) hv.2;have hf:f=[]:=hO.1;subst hf;have h1:=gh hE h (λ _ _ h=>h) (λ _ h => .inl h) (λ τ v x y h1 h2=>uq h.aN h.aH (λ _ _ h=>h) h1 h2) (Ts:=[T]) (vs:=[v]) (Z9:=[y]) (xs:=[x]) (by simp only[jT,hy]) ⟨hv.1,af⟩;refine⟨⟨[],vX.flatten,by simp,?_,q1⟩,λ a ha=>?_⟩
  .have h1:=h1.1;cases y with
   | own v=>exact h1.elim
   | box k=>exact h1.elim
   | _=>exact⟨rfl,h1⟩
  .rcases a7J.1 ha with rfl|ha
   .exact J5
   .exact q2 a ha
 | [],[],[],_::_,_,_,_,_,_,hv=>hv.elim
 | _,_,_::_,[],_,_,_,_,_,hv=>hv.elim
 | [],_::_,_,_,_,_,hm,_,_,_=>by simp[eJ] at hm
 | [],[],_::_,_,_,_,hm,_,_,_=>by simp[eJ] at hm
 | some _::_,[],_,_,_,_,hm,_,_,_=>by simp[eJ] at hm
 | none::_,[],_,_,_,_,hm,_,_,_=>by simp[eJ] at hm
 | some _::_,_::_,[],_,_,_,hm,_,_,_=>by simp[eJ] at hm
 | none::_,_::_,[],_,_,_,hm,_,_,_=>by simp[eJ] at hm
 | _::_,_::_,_::_,_::_,[],_,_,_,hl,_=>by simp at hl
theorem Oi{lk:Nat->Option aw}{τ:Ty}:∀ {ps:List (Nat×AV)} {n:Nat} {xs:List τ.den} {ids:List Nat},B3 lk τ n ps=some (xs,ids)->xs.length=ps.length
 | [],n,xs,ids,h=>by
  simp only[B3,a7v,a7x] at h;obtain⟨rfl,_⟩:=h;rfl
 | (i,v)::ps,n,xs,ids,h=>by
  simp only[B3] at h;split at h
  .split at h
   .split at h
    .rename_i q;simp only[a7v,a7x] at h;obtain⟨rfl,_⟩:=h;simp[Oi q]
    .cases h
   .cases h
  .cases h
theorem Kk(h:Inv c G s a w){τ:Ty}{place:Nat->Option (Nat×Nat)}(hp:∀ i,place i=some (i * τ.size,τ.size)) :
  ∀ {ps:List (Nat×AV)} {vs:List (Nat×Value)} {n:Nat} {xs:List τ.den} {ids:List Nat} {l:List Value},B3 s.ag τ n ps=some (xs,ids)->aM (λ p q=>p.1=q.1/\VR c G s.ag w p.2 q.2) ps vs->ids.Nodup ->
   (n+ps.length) * τ.size=l.length->∃ r fp,Instr.fill place l.toArray vs=some (l.take (n * τ.size)++r).toArray/\bI w (xs.map τ.aI) r fp/\r.length=xs.length * τ.size/\fp.Nodup/\∀ b∈fp,tT G s.ag ids b
 | [],[],n,xs,ids,l,h1,_,_,hl=>by
  simp only[B3,a7v,a7x] at h1;obtain⟨rfl,rfl⟩:=h1;refine⟨[],[],?_,rfl,by simp,a8F,by simp⟩;simp only[a7T,a9u] at hl;rw[hl,List.take_length,a8z];rfl
 | (i,v)::ps,(j,x)::vs,n,xs,ids,l,h1,hv,cX,hl=>by
  obtain⟨⟨qi,hx⟩,M1⟩:=hv;have qi:i=j:=qi;subst qi;simp only[B3] at h1;split at h1
  .rename_i ff;have ff:=a7w ff;subst ff;split at h1
   .rename_i y i1 hy;split at h1
    .rename_i ys js Dc;simp only[a7v,a7x] at h1;obtain⟨rfl,rfl⟩:=h1;rw[a7Q] at cX;obtain⟨n1,n2,n3⟩:=cX;obtain⟨f1,o1,o2,o3⟩:=px h hy hx n1;have hr:=vL.cells o1;have bW:x.cells.size=τ.size:=by
      have:=Ow.length _ hr;rw[Ty.cm] at this;simpa using this
     simp only[a7I] at hl;have Bh:=τ.size_pos;have e1:(i+(ps.length+1)) * τ.size=i * τ.size+τ.size+ps.length * τ.size:=by
      rw[a8B,a8B];omega
     rw[Is place i _ _ x vs l (hp i) bW (by omega)];obtain⟨r,f2,q1,q2,q3,q4,q5⟩:=Kk h hp (l:=l.take (i * τ.size)++x.cells.toList++l.drop (i * τ.size+τ.size)) Dc M1 n2 (by
      simp[bW];rw[show (i+1+ps.length) * τ.size=i * τ.size+τ.size+ps.length * τ.size by rw[a8B,a8B];omega];omega)
     refine⟨x.cells.toList++r,f1++f2,?_,⟨_,_,f1,f2,rfl,rfl,hr,q2⟩,?_,?_,?_⟩
     .rw[q1];congr 2;rw[show (i+1) * τ.size=i * τ.size+τ.size by rw[a8B];omega];have ht:(l.take (i * τ.size)++x.cells.toList).length=i * τ.size+τ.size:=by simp[bW];omega
      rw[<-ht,a9W,a8c]
     .simp only[a7K,a7I,a8q,bW,q3,a8B];omega
     .exact dV o2 q4 λ b hb cv=>h.iH (o3 b hb) (q5 b cv) (λ x hx y hy=>n3 x hx y hy)
     .intro b hb;rcases a7y.1 hb with hb|hb
      .exact (o3 b hb).mono λ i hi=>by simp[hi]
      .exact (q5 b hb).mono λ i hi=>by simp[hi]
    .cases h1
   .cases h1
  .cases h1
 | [],_::_,_,_,_,_,_,hv,_,_=>hv.elim
 | _::_,[],_,_,_,_,_,hv,_,_=>hv.elim
theorem bJ.ZE{X Y:Nat->Prop}{w w':World}(h:bJ X w w')(hXY:∀ b,X b->Y b):bJ Y w w':=⟨h.os,h.tape,h.output,h.size,λ b hb hn=>h.block b hb λ hx=>hn (hXY b hx)⟩
theorem Q8(h:Inv c G s a w){ids:List Nat}{b:Nat}(hb:tT G s.ag ids b):b<w.heap.size:=(Gz h hb).2.2.1
theorem Tz{lk:Nat->Option aw}{τ:Ty}{v:AV}{r:τ.den×List Nat}(h:eA lk τ v=some r):v.cell=true\/∃ s x,v = .aQ ⟨.st s,x⟩:=by
 cases v with
 | aQ u =>
  obtain⟨aT,x⟩:=u;cases aT with
  | st s=>exact .inr ⟨s,x,rfl⟩
  | _=>exact .inl rfl
 | nil=>exact .inl rfl
 | aC id=>exact .inl rfl
 | row id=>exact .inl rfl
 | _=>simp[eA] at h
theorem a0z(h:Inv c G s a w){τ:Ty}{v:AV}{x:Value}{xs:List τ.den}{ids:List Nat}(ht:eA s.ag (.slice τ) v=some (xs,ids))(hv:VR c G s.ag w v x):∃ fp,Ow w (.slice τ.size (xs.map τ.aI)) [x] fp/\fp.Nodup/\∀ b∈fp,tT G s.ag ids b:=by
 rcases Tz ht with hc|⟨st,y,rfl⟩
 .exact vG h ht (hv.P7 hc)
 .simp[eA,Ty.pj] at ht
theorem iq:∀ {us:List TV} {cs:List Value} {fp:List Nat},cW w (us.map TV.aI) cs fp->wA us->cW w ((us.map Uk).map TV.aI) cs fp
 | [],_,_,h,_=>h
 | ⟨τ,x⟩::us,cs,fp,h,hf=>by
  obtain⟨v,r,f1,f2,rfl,rfl,h3,h4⟩:=h;cases τ with
  | mv t =>
   have hf:Option.isSome (α:=List t.den) x=true/\wA us:=hf;refine⟨v,r,f1,f2,rfl,rfl,?_,iq h4 hf.2⟩;match x,hf.1,h3 with
   | some l,_,h3=>exact h3
  | ptr=>exact⟨v,r,f1,f2,rfl,rfl,h3,iq h4 hf⟩
  | int k=>exact⟨v,r,f1,f2,rfl,rfl,h3,iq h4 hf⟩
  | bool=>exact⟨v,r,f1,f2,rfl,rfl,h3,iq h4 hf⟩
  | str=>exact⟨v,r,f1,f2,rfl,rfl,h3,iq h4 hf⟩
  | slice t=>exact⟨v,r,f1,f2,rfl,rfl,h3,iq h4 hf⟩
  | st q=>exact⟨v,r,f1,f2,rfl,rfl,h3,iq h4 hf⟩
theorem Gq:∀ {us:List TV} {cs:List Value} {fp:List Nat},cW w (us.map TV.aI) cs fp->(∀ u∈us,u.τ.LD=true)->cW w ((us.map QE).map TV.aI) cs []
 | [],_,_,h,_=>⟨h.1,rfl⟩
 | ⟨τ,x⟩::us,cs,fp,h,hf=>by
  obtain⟨v,r,f1,f2,rfl,rfl,h3,h4⟩:=h;have hr:=Gq h4 λ u hu=>hf u (by simp[hu]);have sc:τ.pj=true->Ow w (τ.aI x) [v] []:=λ hs=>Ow.eu (S:=λ _=>True) _ (pn hs x) (Ow.rd _ h3 λ _ _=>trivial);have hm:τ.LD=true:=hf ⟨τ,x⟩ (by simp);cases τ with
  | mv t =>
   refine⟨v,r,[],[],rfl,rfl,?_,hr⟩;match x,h3 with
   | some l,h3=>obtain⟨a',cap,k1,_⟩:=h3;exact⟨⟨_,_,_,k1⟩,rfl⟩
   | none,h3=>exact⟨h3.1,rfl⟩
  | int k=>exact⟨v,r,[],[],rfl,rfl,sc rfl,hr⟩
  | bool=>exact⟨v,r,[],[],rfl,rfl,sc rfl,hr⟩
  | str=>exact⟨v,r,[],[],rfl,rfl,sc rfl,hr⟩
  | slice t=>cases hm
  | ptr=>exact⟨v,r,[],[],rfl,rfl,sc rfl,hr⟩
  | st q=>cases hm
theorem Xv(l:List Value)(k n:Nat):l.take k++(l.drop k).take n++l.drop (k+n)=l:=by
 rw[a8c,<-b0F,a9a,a9a]
theorem Inv.a3I(h:Inv c G s a w){id i:Nat}{p q:aJ}{xs:List (Ty.den (.st p))}{y:p.den}{z:q.den}(aO:s.ag id=some (.aC (.st p) xs))
  (hy:p.fL ((p.cells (xs.getD i (Ty.zero (.st p)))).map QE)=some y) (hz:q.fL ((p.cells (xs.getD i (Ty.zero (.st p)))).map Uk)=some z) (xi:p.my.all Ty.LD=true)
  (a3w:wA (p.cells (xs.getD i (Ty.zero (.st p))))) {a0:Option Addr} {n cap:Nat} {l:List Value} (eI:G.η id = .tuple (.slice a0 n cap::l).toArray) (hi:i<n) :
  ∃ G' f1 b,a0=some ⟨b,0,none⟩/\bn w b (i * p.size) ((l.drop (i * p.size)).take p.size)/\((l.drop (i * p.size)).take p.size).length=p.size/\Inv c G' (s.bX.fb id (.st p) (xs.set i y)) a w /\
   Ow w (q.aI z) ((l.drop (i * p.size)).take p.size) f1/\f1.Nodup/\Fr c G' (s.bX.fb id (.st p) (xs.set i y)).ag w f1:=by
 have hT:=h.aN.tr id _ xs aO;obtain⟨hn,b,f,t,e1,M8,hh,eO⟩:=rM hT eI hi;have Db:i<xs.length:=by omega
 have Bd:l.length=cap * p.size/\xs.length<=cap/\cap<=maxLen/\xs.length<=140737488355328:=by
  obtain⟨v0,l0,a1,Pq,k1,k2,k3,k4,k5,k6⟩:=hT;rw[eI] at k1;simp only[a8Z] at k1;have k1:(Value.slice a0 n cap::l)=v0::l0:=congrArg Array.toList k1;simp only[a7A] at k1;obtain⟨k7,rfl⟩:=k1;rw[k2] at k7;simp only[a9k] at k7;obtain⟨_,_,rfl⟩:=k7;rcases k6 with ⟨rfl,_,_⟩|⟨_,_,_,_,_,_,k8,_⟩
  .simp at Db
  .exact⟨k8,k3,k4,k5⟩
 have bW:∀ d∈xs.map (Ty.aI (.st p)),d.size=p.size:=Fi (τ := .st p) xs;obtain⟨f0,f1,f2,hf,m0,m1,m2⟩:=bI.split (xs.map (Ty.aI (.st p))) i (Ty.aI (.st p) (xs.getD i (Ty.zero (.st p)))) eO bW (by simp[List.getD,Db]);have qV:((l.drop (i * p.size)).take p.size).length=p.size:=by rw[a8D,a8J];omega
 have m1:Ow w (.agg ((p.cells (xs.getD i (Ty.zero (.st p)))).map TV.aI)) ((l.drop (i * p.size)).take p.size) f1:=by
  have:=m1;rwa [show Ty.aI (.st p) (xs.getD i (Ty.zero (.st p)))=p.aI (xs.getD i (Ty.zero (.st p))) from rfl,aJ.bR] at this
 have hz':Ow w (q.aI z) ((l.drop (i * p.size)).take p.size) f1:=by
  rw[aJ.bR,aJ.ly hz];exact iq m1 a3w
 have M6:Ow w (p.aI y) ((l.drop (i * p.size)).take p.size) []:=by
  rw[aJ.bR,aJ.ly hy];refine Gq m1 λ u hu=>?_;have:u.τ∈p.my:=by rw[<-aJ.iD p (xs.getD i (Ty.zero (.st p)))];exact a7B.2 ⟨u,hu,rfl⟩
  exact a8g.1 xi _ this
 have hr:=m2 w (p.aI y) _ [] (λ _ _=>rfl) qV M6;rw[Xv,a8z] at hr;have cX:=h.aN.nd id _ xs aO;rw[M8,a8b,hf] at cX;obtain⟨IB,cX⟩:=cX;have a7q:=cX;rw[a7Q,a7Q] at cX;obtain⟨⟨d0,d1,d01⟩,d2,a1V⟩:=cX;have Sl:gL w (G.η id) (.st p) (xs.set i y) (b::(f0++f2)):=by
  refine⟨_,l,a0,cap,eI,by rw[hn,a8A],by rw[a8A];exact Bd.2.1,Bd.2.2.1,by rw[a8A];exact Bd.2.2.2, .inr ⟨b,f0++f2,t,e1,rfl,hh,Bd.1,?_⟩⟩;rw[b0Y];exact hr
 have uH:∀ k∈b::(f0++f2),k∈G.φ id:=λ k hk=>by
  rw[M8,hf];simp only[a7J,a7y] at hk ⊢;rcases hk with hk|hk|hk<;>simp[hk]
 have a5S:(b::(f0++f2)).Nodup:=by
  refine a8b.2 ⟨λ hk=>IB ?_,dV d0 d2 λ x hx sR=>a1V x (by simp[hx]) x sR rfl⟩;simp only[a7y] at hk ⊢;rcases hk with hk|hk<;>simp[hk]
 have hf1:∀ k∈f1,k∈G.φ id/\k∉b::(f0++f2):=λ k hk=>by
  refine⟨by rw[M8,hf];simp[hk],λ hm=>?_⟩;simp only[a7J,a7y] at hm;rcases hm with rfl|hm|hm
  .exact IB (by simp[hk])
  .exact d01 k hm k hk rfl
  .exact a1V k (by simp[hk]) k hm rfl
 obtain⟨g1,g2,g3⟩:=h.bX;have PN:s.bX.ag id=some (.aC (.st p) xs):=by rw[iK];simp[aO,aw.cO]
 let A:List (Nat×TE):=[(id,(G.η id,b::(f0++f2), .aC (.st p) (xs.set i y)))];have T:=Dj.ofList (c:=c) (G:=G) (lk:=s.bX.ag) (w:=w) (w':=w) (A:=A) (λ e he=>by
  simp only[A,a7O] at he;subst he;exact⟨_,xs,_,_,l,l,PN,rfl,eI,eI,Sl,a5S⟩) (λ e he k hk=>by
  simp only[A,a7O] at he;subst he;exact .inl ⟨_,a7O.2 rfl,uH k hk⟩) (λ e he e' xf _ _ _=>by
  simp only[A,a7O] at he xf;rw[he,xf]) (by simp[A]) (λ _ _ _=>rfl) rfl rfl rfl (a7P _)
 have hI:=bf.eo g1 T g2 g3;have bP:(s.bX.fb id (.st p) (xs.set i y)).ag=TB A s.bX.ag:=by
  funext j;rw[ja,Ol]
 refine⟨⟨G.S,B7 A G,vH A G⟩,f1,b,e1,?_,qV,?_,hz',d1,?_⟩
 .have:=(bn.of_heap hh).part (i * p.size) p.size;rwa [a8W] at this
 .unfold Inv;rw[bP];exact hI
 .intro k hk;obtain⟨k1,k2⟩:=hf1 k hk;obtain⟨q1,q2,q3,q4⟩:=g1.aN.pl id _ xs k PN k1;refine⟨q1,q2,q3,λ j o hj lb=>?_,λ j τ ys hj lb=>?_⟩
  .have lb:dx (B7 A G j)=some k:=lb;rw[ja] at hj;by_cases qj:j=id
   .subst qj;have:B7 A G j=G.η j:=by simp[B7,A,ag]
    rw[this,eI] at lb;cases lb
   .rw[a7z qj] at hj;have:B7 A G j=G.η j:=by
     have dm:Nat.beq id j=false:=by
      cases hb:Nat.beq id j with
      | false=>rfl
      | true=>exact absurd (a7w hb).symm qj
     simp[B7,A,ag,dm]
    rw[this] at lb;exact q4 j o hj lb
  .have lb:k∈vH A G j:=lb;rw[ja] at hj;by_cases qj:j=id
   .subst qj;have:vH A G j=b::(f0++f2):=by simp[vH,A,ag]
    rw[this] at lb;exact k2 lb
   .rw[a7z qj] at hj;have:vH A G j=G.φ j:=by
     have dm:Nat.beq id j=false:=by
      cases hb:Nat.beq id j with
      | false=>rfl
      | true=>exact absurd (a7w hb).symm qj
     simp[vH,A,ag,dm]
    rw[this] at lb;exact qj (g1.aN.ap j id _ _ _ _ k hj PN lb k1)
theorem T7(hE:bo c.P c.E)(h:Inv c G s a w){o:Oper}{vc:Vc}{s':ah}(hq:Qq c.E s o=some (vc,s'))(dO:vc.ok){Q:Exit->Act->World->Prop} :
  o.wp c.P a w (λ a' w'=>∃ G',Inv c G' s' a' w') Q:=by
 unfold Qq at hq;split at hq;case h_2=>cases hq
 case h_1 d hd =>
 split at hq;case h_2=>cases hq
 case h_1 dA =>
 split at hq;case h_4=>cases hq
 case h_1 T len parts bh =>
  split at hq;case h_2=>cases hq
  case h_1 τ p hT =>
  obtain⟨b,e⟩:=p;split at hq;case h_2=>cases hq
  case h_1 hlen =>
  split at hq;case h_2=>cases hq
  case h_1 xs ids jJ =>
  split at hq;case h_2=>cases hq
  case h_1 hb oj =>
  simp only[a7v,a7x] at hq;obtain⟨rfl,rfl⟩:=hq;simp only[a7H] at hlen;have QY:=a7w hlen.1;have hl2:=a8w hlen.2;subst QY;obtain⟨h1,⟨b',e',h2⟩,i,z,h3,h4,h5,h6,h7⟩:=hE.slice hT;have Bh:=τ.size_pos;have G5:τ.size<=100:=Ty.size_le τ;have a5C:parts.size * τ.size<=16777216:=a8M (Nat.mul_le_mul hl2 G5) (by decide);obtain⟨r,fp,h8,h9,h10,h11,h12⟩:=Kk (place:=λ i=>some (i * τ.size,τ.size)) h (λ _=>rfl) (l:=((Array.range (parts.size * τ.size)).map (λ j=>((if parts.size * τ.size=0 then #[] else z.cells:Array Value)[j % (if parts.size * τ.size=0 then #[] else z.cells:Array Value).size]!))).toList) jJ (aM.xH (aX h) _) (dh hb) (by simp);have qk:=Oi jJ;simp only[a8n,a8q] at qk;rw[qk] at h10;simp only[b0x,a9z,a8l,a8v] at h8;have cC:(execOp a.eval o).run c.P w = .ok (.value (.slice (some ⟨w.heap.size,0,none⟩) parts.size parts.size)) (w.alloc (.cells r.toArray e)):=by
   have e2:(parts.map λ (i,x)=>(i,a.eval x)).toList=parts.toList.map λ p=>(p.1,a.eval p.2):=by simp
   have gZ:¬ (parts.size * τ.size>2 ^ 24):=by omega
   simp only[execOp,bh,Instr.buildSlice,a7U,a8k h1,a7N,hE.sizeOf h2,a7z gZ,a7S];by_cases h0:parts.size * τ.size=0
   .simp only[h0,a9o,a7U,a7S,a7N,e2] at h8 ⊢;rw[h8];simp[newRow]
   .simp only[h0,b0l,a7U,zeroValue,typeInfo,run_program,a7N,h3,h6,a7S,e2] at h8 ⊢;rw[h8];simp[newRow]
  unfold Oper.wp;rw[cC];show ∃ G',Inv c G' _ (a.put o.dst _) _;rw[hd];have bp:∀ k∈fp,k<w.heap.size:=λ k hk=>Q8 h (h12 k hk);have eO:bI (w.alloc (.cells r.toArray e)) (xs.map τ.aI) r fp:=bI.aK _ h9 λ k hk=>heap_alloc_old w _ k (bp k hk);refine Inv.built h (zs:=xs) (fp:=w.heap.size::fp) (l:=r) ((fj w _).ZE λ _ k=>k.elim) ⟨_,_,some ⟨w.heap.size,0,none⟩,parts.size,rfl,by rw[qk],by rw[qk];omega,by simp only[maxLen];omega,by rw[qk];omega, .inr ⟨w.heap.size,fp,e,rfl,rfl,heap_alloc_new w _,h10,eO⟩⟩ ⟨_,_,_,rfl⟩ (List.nodup_cons.2 ⟨λ hh=>Nat.lt_irrefl _ (bp _ hh),h11⟩) (λ k hk=>?_) oj;rcases List.mem_cons.1 hk with rfl|hk
  .exact .inr ⟨a7P _,by simp⟩
  .exact .inl (h12 k hk)
 case h_2 T ad bh =>
  split at hq;case h_2=>cases hq
  case h_1 q r id i sz hT hx =>
  split at hq;case h_2=>cases hq
  case h_1 p xs aO =>
  split at hq;case h_2=>cases hq
  case h_1 y z hb hy hz =>
  split at hq;case h_2=>cases hq
  case h_1 Da =>
  simp only[a7v,a7x] at hq;obtain⟨rfl,rfl⟩:=hq;simp only[a7H] at hb Da;have bW:=a7w hb.1;subst bW;have hp:=aX h ad;rw[hx] at hp;obtain⟨_,b,n,cap,l,eI,hi,hp⟩:=hp;obtain⟨G1,f1,b',e1,lf,hlen,hI,hO,cX,hF⟩:=h.a3I aO hy hz hb.2 dO eI hi;simp only[a7v,a9n,a7W] at e1;subst e1;have hqs:q.size=p.size:=by
   have e:=Ow.length _ hO;rw[show (q.aI z).size=q.size from Ty.cm (.st q) z] at e;omega
  have cC:(execOp a.eval o).run c.P w = .ok (.value (.agg ((l.drop (i * p.size)).take p.size).toArray)) w:=by
   simp only[execOp,bh,hp,a9u,a7U,gD hE hT lf (by rw[hlen];exact hqs.symm),a7N,a7S];rfl
  unfold Oper.wp;rw[cC];show ∃ G',Inv c G' _ (a.put o.dst _) _;rw[hd];have qh:∀ e∈bT (bF d) (TV.cells ⟨.st q,z⟩),(s.bX.fb id (.st p) (xs.set i y)).ag e.1=none:=λ e he=>by
   have h0:(s.ag e.1).isNone=true:=a8g.1 Da.1 e he;have dm:e.1≠id:=λ hh=>by rw[hh,aO] at h0;cases h0
   rw[ja,a7z dm,iK];show Option.map aw.cO (s.ag e.1)=none;cases hl:s.ag e.1 with
   | none=>rfl
   | some o=>rw[hl] at h0;cases h0
  obtain⟨G2,lk',k1,k2,k3,k4,_⟩:=bf.Lq (v:=⟨.st q,z⟩) (id:=bF d) hI ⟨_,rfl,hO⟩ cX hF qh (dh Da.2) (λ j hj=>by
   cases hr:c.R j with
   | none=>rfl
   | some v=>have:=h.fE j v hr;unfold bF at hj;omega)
  refine⟨G2,?_⟩;have bP:ah.ag { aA:=s.bX.aA.set d (gR (bF d) ⟨.st q,z⟩),aH:=bT (bF d) (q.cells z)++(s.bX.fb id (.st p) (xs.set i y)).aH }=lk':=by
   funext j;rw[k1 j];exact oq _ _ j
  unfold Inv;rw[bP,show ah.sl { aA:=s.bX.aA.set d (gR (bF d) ⟨.st q,z⟩),aH:=bT (bF d) (q.cells z)++(s.bX.fb id (.st p) (xs.set i y)).aH }=iz s.bX.aA.length s.bX.sl (some d) (gR (bF d) ⟨.st q,z⟩) from nz s.bX.aA d _ _,
   show ({ aA:=s.bX.aA.set d (gR (bF d) ⟨.st q,z⟩),aH:=bT (bF d) (q.cells z)++(s.bX.fb id (.st p) (xs.set i y)).aH }:ah).aA.length=s.bX.aA.length from by simp]
  exact bf.put k2 k4.eQ
 case h_3 cl bh =>
  split at hq;case h_3=>cases hq
  case h_2 f e9 =>
   split at hq;case h_1=>cases hq
   case h_2 fl _ _ =>
   split at hq;case h_2=>cases hq
   case h_1 own ids ht =>
   split at hq;case h_2=>cases hq
   case h_1 Z9 hb has =>
   split at hq;case h_2=>cases hq
   case h_1 pre res hc =>
   split at hq;case h_2=>cases hq
   case h_1 Da =>
   simp only[Option.some.injEq,Prod.mk.injEq] at hq;obtain⟨rfl,rfl⟩:=hq;simp only[Bool.and_eq_true,List.all_eq_true] at Da;have qh:∀ p∈bc (bF d) res,(ids.foldl ah.gone s).ag p.1=none:=λ p hp=>by simpa using Da.1 p hp
   have nL:=dh Da.2;obtain⟨oi,jf⟩:=hE.Hp f Z9 pre res hc dO;obtain⟨vX,t1,t2,t3,t4⟩:=tP h ht (dh hb) (aM.iL (aX h) _);have h1:Inv c G (ids.foldl ah.gone s) a w:=sH ids h;have hF:∀ b,b∈vX.flatten->rb c G (ids.foldl ah.gone s).ag w b:=λ b hb=>Gz h (t4 b hb);obtain⟨m1,m2⟩:=qv hE h1 has t1 t2 (aM.iL (aX h1) _);generalize UG:ids.foldl ah.gone s=s1 at *
   unfold Oper.wp;rw[fM bh e9 rfl oi];simp only[Oper.upon];refine (jf w (SX G s1.ag) _ vX.flatten ?_ m1 (.inr m2) t3 (λ b hb=>⟨(hF b hb).2.2.1,(hF b hb).a1u⟩)).mono ?_
   .exact h1.Tx
   .rintro e w' ⟨x,fp,rfl,hk,hO,cX,lg⟩;have hI:=Inv.over h1 hF hk;obtain⟨ys,qf,M5⟩:=Fo (c:=c) (id:=bF d) hO;have hFr:Fr c G s1.ag w' fp:=λ b hb=>by
     rcases lg b hb with hi|⟨q1,q2⟩
     .obtain⟨f1,f2,f3,f4,f5⟩:=hF b hi;exact⟨f1,f2,a7F f3 hk.size,f4,f5⟩
     .refine⟨.inl (a8M h1.aK.size q1),λ hs=>?_,q2,λ i o' hi qg=>?_,λ j τ zs hj lb=>?_⟩
      .have:=h1.dy b hs;omega
      .have:=(h1.place i o' b hi qg).2.2;omega
      .have:=(h1.aN.pl j τ zs b hj lb).2.2.1;omega
    obtain⟨G',lk',k1,k2,k3,k4,_⟩:=hI.FP (id:=bF d) qf cX hFr qh nL (λ j hj=>by
     cases hr:c.R j with
     | none=>rfl
     | some v=>have:=h.fE j v hr;unfold bF at hj;omega)
    refine⟨G',?_⟩;have bP:ah.ag { aA:=s1.aA.set d (iM (bF d) res),aH:=bc (bF d) res++s1.aH }=lk':=by
     funext i;rw[k1 i];exact oq _ _ i
    unfold Inv;rw[bP,hd,show ah.sl { aA:=s1.aA.set d (iM (bF d) res),aH:=bc (bF d) res++s1.aH }=iz s1.aA.length s1.sl (some d) (iM (bF d) res) from nz s1.aA d _ _,
     show ({ aA:=s1.aA.set d (iM (bF d) res),aH:=bc (bF d) res++s1.aH }:ah).aA.length=s1.aA.length from by simp]
    exact bf.put k2 (M5 G' lk' k4)
  case h_1 e9 =>
  split at hq;case h_2=>cases hq
  case h_1 T T' MO =>
  split at hq;case h_2=>cases hq
  case h_1 τ b e MN hT =>
  have MN:=a7w MN;subst MN;split at hq;case h_2=>cases hq
  case h_1 x y dE =>
  split at hq;case h_2=>cases hq
  case h_1 xs i ys j hx hy =>
  split at hq;case h_2=>cases hq
  case h_1 hb oj =>
  simp only[a7v,a7x] at hq;obtain⟨rfl,rfl⟩:=hq;obtain⟨v,z,e1,e2,e3⟩:=a0N h dE;have hb:=dh hb;rw[a7Q] at hb;obtain⟨n1,n2,n3⟩:=hb;obtain⟨fx,o1,o2,o3⟩:=a0z h hx e2;obtain⟨fy,p1,p2,p3⟩:=a0z h hy e3;obtain⟨v',w',fp,l,k1,k2,k3,k4,k5,k6⟩:=Qh (c:=c) (w:=w) hE hT o1 p1 (λ k hk=>Q8 h (o3 k hk)) (λ k hk=>Q8 h (p3 k hk)) o2 p2
   (λ k hk fg=>h.iH (o3 k hk) (p3 k fg) λ x hx y hy=>n3 x hx y hy) dO o.type
  have GQ:cl.argTypes = #[T,T]:=by rw[<-a8v (xs:=cl.argTypes),MO]
  have Bk:cl.args.map a.eval = #[v,z]:=by rw[<-a8v (xs:=cl.args.map a.eval),a9q,e1]
  have MU:(execOp a.eval o)=(do let d <-resolve a.eval cl o.type;invoke d.target d.args):=by simp[execOp,bh]
  have GW:(execOp a.eval o).run c.P w=((Builtin.append_ #[T,T] o.type #[v,z]).run c.P w).andThen λ v w => .ok (.value v) w:=by
   rw[MU];simp[resolve,e9,invoke,builtin,GQ,Bk]
  unfold Oper.wp;rw[GW,k1];show ∃ G',Inv c G' _ (a.put o.dst _) _;rw[hd];refine Inv.built h (zs:=xs++ys) (fp:=fp) (l:=l) (k6.ZE λ k hk=>(o3 k hk).mono λ i hi=>by simp[hi]) k2 k3 k4 (λ k hk=>?_) oj;rcases k5 k hk with hk|hk|hk
  .exact .inl ((o3 k hk).mono λ i hi=>by simp[hi])
  .exact .inl ((p3 k hk).mono λ i hi=>by simp[hi])
  .exact .inr hk
end
def a3W:Value->Nat
 | .pointer (some a)=>a.block
 | _=>0
def jw(G:Gh)(m:List (Nat×Nat))(k:Nat):Nat:=match ag m k with
 | some id=>a3W (G.η id)
 | none=>0
def jA(m m':List (Nat×Nat)):Prop:=∀ k id,ag m k=some id->ag m' k=some id
theorem jA.refl(m:List (Nat×Nat)):jA m m:=λ _ _ h=>h
theorem jA.trans{a b c:List (Nat×Nat)}(h:jA a b)(k:jA b c):jA a c:=λ i id q=>k i id (h i id q)
theorem vx{α:Type}(k:Nat)(o:α)(l:List (Nat×α))(j:Nat):ag ((k,o)::l) j=if j=k then some o else ag l j:=by
 have e:ag ((k,o)::l) j=match Nat.beq k j with
  | true=>some o
  | false=>ag l j:=rfl
 rw[e];cases hb:Nat.beq k j with
 | true=>rw[a7E (a7w hb).symm]
 | false=>rw[a7z (λ e=>by subst e;rw[Nat.beq_refl] at hb;cases hb)]
theorem My{m:List (Nat×Nat)}{k id:Nat}(h:ag m k=none):jA m ((k,id)::m):=λ i j q=>by
 rw[vx];by_cases hi:i=k
 .subst hi;rw[h] at q;cases q
 .rw[a7z hi];exact q
theorem Nv{m:List (Nat×Nat)}{k id:Nat}:ag ((k,id)::m) k=some id:=by rw[vx,a7E rfl]
section
variable {c:Ctx} {G:Gh} {s:ah} {a:Act} {w w':World}
theorem X4{lk:Nat->Option aw}{τ:Ty}{v:AV}{x:Value}{y:τ.den}(h:ik (λ _=>none) τ v=some y)(hv:C1 c G lk w v x):Rd w G.S (τ.aI y) [x]:=Ls h hv
theorem lV{sl:Nat->AV}{n:Nat}{lk:Nat->Option aw}(h:bf c G sl n lk a w):∀ {ks:List CK} {cs:List AV} {m m':List (Nat×Nat)} {ds:List TV} {ids:List Nat} {l:List Value},cM lk ks cs m=some (ds,ids,m')->ids.Nodup->aM (C1 c G lk w) cs l ->
  jA m m'/\∃ fp,(∀ mf,jA m' mf->ji w G.S (jw G mf) ks ds l fp)/\fp.Nodup/\∀ b∈fp,tT G lk ids b
 | [],[],m,m',ds,ids,l,ht,_,hv=>by
  simp only[cM,a7v,a7x] at ht;obtain⟨rfl,rfl,rfl⟩:=ht;match l,hv with
  | [],_=>exact⟨jA.refl _,[],λ _ _=>rfl,a8F,by simp⟩
 | .d τ::ks,v::cs,m,m',ds,ids,l,ht,hn,hv=>by
  simp only[cM] at ht;split at ht;case h_2=>cases ht
  case h_1 y hy y9 =>
  split at ht;case h_2=>cases ht
  case h_1 ds1 SF m1 hr =>
  simp only[a7v,a7x] at ht;obtain⟨rfl,rfl,rfl⟩:=ht;match l,hv with
  | x::l,hv =>
   obtain⟨e1,fp,e2,e3,e4⟩:=lV h hr hn hv.2;exact⟨e1,fp,λ mf hm=>⟨⟨rfl,y9,X4 hy hv.1⟩,e2 mf hm⟩,e3,e4⟩
 | .o τ::ks,v::cs,m,m',ds,ids,l,ht,hn,hv=>by
  simp only[cM] at ht;split at ht;case h_2=>cases ht
  case h_1 y i hy y9 =>
  split at ht;case h_2=>cases ht
  case h_1 ds1 SF m1 hr =>
  simp only[a7v,a7x] at ht;obtain⟨rfl,rfl,rfl⟩:=ht;rw[a7Q] at hn;obtain⟨n1,n2,n3⟩:=hn;match l,hv with
  | x::l,hv =>
   obtain⟨e1,fp,e2,e3,e4⟩:=lV h hr n2 hv.2;obtain⟨f1,o1,o2,o3⟩:=vG h hy hv.1;refine⟨e1,f1++fp,λ mf hm=>⟨f1,fp,rfl,⟨rfl,y9,o1⟩,e2 mf hm⟩,dV o2 e3 λ b hb cv=>h.iH (o3 b hb) (e4 b cv) λ x hx y hy=>n3 x hx y hy,λ b hb=>?_⟩;rcases a7y.1 hb with hb|hb
   .exact (o3 b hb).mono λ k hk=>by simp[hk]
   .exact (e4 b hb).mono λ k hk=>by simp[hk]
 | .p j::ks,v::cs,m,m',ds,ids,l,ht,hn,hv=>by
  simp only[cM] at ht;split at ht;case h_2=>cases ht
  case h_1 id =>
  match l,hv with
  | x::l,hv =>
   have key:∀ m1,cM lk ks cs m1=some (ds,ids,m')->jA m m1->ag m1 j=some id->jA m m'/\∃ fp,(∀ mf,jA m' mf->ji w G.S (jw G mf) (.p j::ks) ds (x::l) fp)/\fp.Nodup/\∀ b∈fp,tT G lk ids b:=λ m1 hr hx hj=>by
    obtain⟨e1,fp,e2,e3,e4⟩:=lV h hr hn hv.2;refine⟨hx.trans e1,fp,λ mf hm=>?_,e3,e4⟩;have hv1:C1 c G lk w (.ptr id 0) x:=hv.1;obtain⟨b,h1,h2,_⟩:=hv1;have:jw G mf j=b:=by
     simp only[jw,hm j id (e1 j id hj),h1];rfl
    cases ds with
    | nil=>exact⟨by rw[this];exact h2,e2 mf hm⟩
    | cons d ds=>exact⟨by rw[this];exact h2,e2 mf hm⟩
   split at ht
   .rename_i i hi;split at ht
    .rename_i hb;have hb:=a7w hb;subst hb;exact key m ht (jA.refl _) hi
    .cases ht
   .rename_i gZ;exact key _ ht (My gZ) Nv
 | [],_::_,_,_,_,_,_,ht,_,_=>by simp[cM] at ht
 | .d _::_,[],_,_,_,_,_,ht,_,_=>by simp[cM] at ht
 | .o _::_,[],_,_,_,_,_,ht,_,_=>by simp[cM] at ht
 | .p _::_,[],_,_,_,_,_,ht,_,_=>by simp[cM] at ht
def a3c(lk:Nat->Option aw)(m:List (Nat×Nat))(k0 n:Nat):Prop:=∀ k,k0<=k->k<k0+n->∃ id cs,ag m k=some id/\lk id=some (.box cs)
theorem zT{sl:Nat->AV}{n:Nat}{lk:Nat->Option aw}(h:bf c G sl n lk a w):∀ {sh:List (List CK)} {k:Nat} {m m':List (Nat×Nat)} {cA:List (List TV)} {ids:List Nat},jR lk sh k m=some (cA,ids,m')->ids.Nodup ->
  jA m m'/\a3c lk m' k sh.length/\∃ fp,(∀ mf,jA m' mf->gf w G.S (jw G mf) k sh cA fp)/\fp.Nodup/\∀ b∈fp,tT G lk ids b
 | [],k,m,m',cA,ids,ht,_=>by
  simp only[jR,a7v,a7x] at ht;obtain⟨rfl,rfl,rfl⟩:=ht;exact⟨jA.refl _,λ j h1 h2=>by simp at h2;omega,[],λ _ _=>rfl,a8F,by simp⟩
 | ks::sh,k,m,m',cA,ids,ht,hn=>by
  simp only[jR] at ht;split at ht;case h_2=>cases ht
  case h_1 id aO =>
  split at ht;case h_2=>cases ht
  case h_1 cs ij =>
  split at ht;case h_2=>cases ht
  case h_1 ds i m1 hr =>
  split at ht;case h_2=>cases ht
  case h_1 a5i SF m2 ub =>
  simp only[a7v,a7x] at ht;obtain⟨rfl,rfl,rfl⟩:=ht;rw[a7Q] at hn;obtain⟨n1,n2,n3⟩:=hn;obtain⟨b,l,t,q1,q2,q3⟩:=h.aH id _ ij;obtain⟨e1,f1,e2,e3,e4⟩:=lV h hr n1 q3;obtain⟨g1,g0,f2,g2,g3,g4⟩:=zT h ub n2;refine⟨e1.trans g1,λ j h1 h2=>?_,f1++f2,λ mf hm=>⟨l,t,f1,f2,rfl,?_,e2 mf (g1.trans hm),g2 mf hm⟩,dV e3 g3 λ b hb cv=>h.iH (e4 b hb) (g4 b cv) λ x hx y hy=>n3 x hx y hy,λ b hb=>?_⟩
  .by_cases hj:j=k
   .subst hj;exact⟨id,cs,(e1.trans g1) j id aO,ij⟩
   .exact g0 j (by omega) (by simp at h2;omega)
  .have:jw G mf k=b:=by
    simp only[jw,hm k id ((e1.trans g1) k id aO),q1];rfl
   rw[this];exact q2
  .rcases a7y.1 hb with hb|hb
   .exact (e4 b hb).mono λ k hk=>by simp[hk]
   .exact (g4 b hb).mono λ k hk=>by simp[hk]
theorem rZ:∀ {fl:List (Option Nat)} {vs:List AV} {m m':List (Nat×Nat)},gU fl vs m=some m'->jA m m'/\∀ (i k:Nat),fl[i]?=some (some k)->∃ id,vs[i]?=some (AV.ptr id 0)/\ag m' k=some id
 | [],[],m,m',h=>by
  simp only[gU,a7v] at h;subst h;exact⟨jA.refl _,λ i k q=>by simp at q⟩
 | none::fl,v::vs,m,m',h=>by
  obtain⟨h1,h2⟩:=rZ (fl:=fl) (vs:=vs) h;refine⟨h1,λ i k q=>?_⟩;cases i with
  | zero=>simp at q
  | succ i=>exact h2 i k (by simpa using q)
 | some k::fl,v::vs,m,m',h=>by
  simp only[gU] at h;split at h;case h_2=>cases h
  case h_1 id =>
  have key:∀ m1,jA m m1->ag m1 k=some id->gU fl vs m1=some m'->jA m m'/\∀ (i k':Nat),(some k::fl)[i]?=some (some k')->∃ di,(AV.ptr id 0::vs)[i]?=some (AV.ptr di 0)/\ag m' k'=some di:=λ m1 e1 e2 e3=>by
   obtain⟨h1,h2⟩:=rZ e3;refine⟨e1.trans h1,λ i k' q=>?_⟩;cases i with
   | zero =>
    simp only[b0p,a7v] at q;subst q;exact⟨id,rfl,h1 k id e2⟩
   | succ i=>exact h2 i k' (by simpa using q)
  split at h
  .rename_i i hi;split at h
   .rename_i hb;have hb:=a7w hb;subst hb;exact key m (jA.refl _) hi h
   .cases h
  .rename_i gZ;exact key _ (My gZ) Nv h
 | [],_::_,_,_,h=>by simp[gU] at h
 | some _::_,[],_,_,h=>by simp[gU] at h
 | none::_,[],_,_,h=>by simp[gU] at h
theorem rI{lk:Nat->Option aw}{ids:List Nat}{id:Nat}{o:aw}(h:Rr lk ids id=some o):lk id=some o/\id∉ids/\∃ cs,o = .box cs:=by
 unfold Rr at h;split at h
 .cases h
 .rename_i hc;split at h
  .rename_i cs ij;simp only[Option.some.injEq] at h;subst h;exact⟨ij,by simpa using hc,cs,rfl⟩
  .cases h
theorem WO{S S':Nat->Prop}{τ:Ty}{y:τ.den}{x:Value}(hf:(match CK.d τ with | .d (.slice _)=>false | .d (.mv _)=>false|_=>true)=true)(ha:τ.agg=false)(h:Rd w S (τ.aI y) [x]):Rd w S' (τ.aI y) [x]:=by
 cases τ with
 | slice t=>cases hf
 | mv t=>cases hf
 | st s=>cases ha
 | _=>exact h
theorem ji.flat{S S':Nat->Prop}{B:Nat->Nat}:∀ {ks:List CK} {ds:List TV} {l:List Value} {fp:List Nat},(ks.all λ k=>match k with | .d (.slice _)=>false | .d (.mv _)=>false|_=>true)=true->ji w S B ks ds l fp->ji w S' B ks ds l fp:=by
 intro ks;induction ks with
 | nil=>intro ds l fp _ h;cases ds<;>cases l<;>exact h
 | cons k0 ks ih =>
  intro ds l fp hf h;rw[List.all_cons,a7H] at hf;cases l with
  | nil=>cases k0<;>cases ds<;>cases h
  | cons x l =>
   cases k0 with
   | d τ =>
    cases ds with
    | nil=>cases h
    | cons v ds =>
     obtain⟨⟨e,h1,h2⟩,h3⟩:=h;refine⟨⟨e,h1,?_⟩,ih hf.2 h3⟩;obtain⟨aT,y⟩:=v;simp only at e;subst e;exact WO hf.1 h1 h2
   | o τ =>
    cases ds with
    | nil=>cases h
    | cons v ds =>
     obtain⟨f1,f2,e,h1,h2⟩:=h;exact⟨f1,f2,e,h1,ih hf.2 h2⟩
   | p j =>
    have h:x = .pointer (some ⟨B j,0,none⟩)/\ji w S B ks ds l fp:=by cases ds<;>exact h
    have r:=ih hf.2 h.2;cases ds<;>exact⟨h.1,r⟩
theorem gf.flat{S S':Nat->Prop}{B:Nat->Nat}:∀ {sh:List (List CK)} {k:Nat} {cA:List (List TV)} {fa:List Nat},Gv sh=true->gf w S B k sh cA fa->gf w S' B k sh cA fa
 | [],k,cA,fa,_,h=>by cases cA<;>exact h
 | ks::sh,k,[],fa,_,h=>h.elim
 | ks::sh,k,ds::cA,fa,hf,h=>by
  obtain⟨l,t,f1,f2,e,h1,h2,h3⟩:=h;unfold Gv at hf;rw[List.all_cons,Bool.and_eq_true] at hf;exact⟨l,t,f1,f2,e,h1,h2.flat hf.1,gf.flat hf.2 h3⟩
theorem Pd.more{P:Program}{f:FuncId}{sh:List (List CK)}{args:List Arg}{cA:List (List TV)}{res:List TV}{eD:List (List TV)}(h:Pd P f sh args cA res eD)(OH:Gv sh=true){S T:Nat->Prop}{B:Nat->Nat}{cj:List Value}{fa:List Nat}(hT:iR w T)(hST:∀ b,S b->T b)
  (hX:∀ b,BX sh.length B fa b->¬ T b) (WT:gf w S B 0 sh cA fa) (VW:fa.Nodup) (Sq:∀ b∈fa,b<w.heap.size/\¬ S b/\∀ k,k<sh.length->B k≠b) (hB:∀ k,k<sh.length->B k<w.heap.size/\¬ S (B k))
  (J3:∀ j k,j<sh.length->k<sh.length->B j=B k->j=k) (ha:aM (Pc P w T (BX sh.length B fa) B) args cj):Qg P f sh res eD w S B cj fa:=by
 refine (h w T B cj fa hT (WT.flat OH) VW (λ b hb=>⟨(Sq b hb).1,hX b (.inl hb),(Sq b hb).2.2⟩) (λ k hk=>⟨(hB k hk).1,hX _ (.inr ⟨k,hk,rfl⟩)⟩) J3 ha).mono ?_;rintro e w' ⟨x,S',fp,QI,rfl,hk,Uq,WU,hS3,hO,hB',cX,lg,hBS⟩;refine⟨x,λ b=>S' b/\(T b->S b),fp,QI,rfl,hk,λ b hb=>⟨Uq b (hST b hb),λ _=>hb⟩,λ b hb=>WU b hb.1,λ b hb hx=>?_,hO,hB'.flat OH,cX,λ b hb=>⟨(lg b hb).1,λ q=>(lg b hb).2.1 q.1,(lg b hb).2.2⟩,λ k hk q=>hBS k hk q.1⟩;have:=hS3 b hb hx;exact⟨λ q=>q.2 (this.1 q.1),λ q=>⟨this.2 (hST b q),λ _=>q⟩⟩
theorem HG{sh:List (List CK)}{lk:Nat->Option aw}{ids:List Nat}{id:Nat}{o:aw}(h:Xs sh lk ids id=some o):lk id=some o/\id∉ids:=by
 unfold Xs at h;split at h
 .split at h
  .cases h
  .rename_i hc;exact⟨h,by simpa using hc⟩
 .obtain⟨h1,h2,_⟩:=rI h;exact⟨h1,h2⟩
theorem NV(h1:Inv c G s a w){S1 X:Nat->Prop}{lk':Nat->Option aw}(bP:∀ id o,lk' id=some o->s.ag id=some o)(eN:∀ (τ:Ty) v x (y:τ.den),ri lk' τ v=some y->VR c G s.ag w v x->du w S1 ⟨τ,y⟩ x)
  (qU:∀ b,X b->¬ St c G.S b) (jI:∀ id o b,lk' id=some o->dx (G.η id)=some b->¬ X b) {τ:Ty} {v:AV} {x:Value} {y:τ.den} (hy:deref lk' τ v=some y) (hx:VR c G s.ag w v x) :
  ∃ b o cs,x = .pointer (some ⟨b,o,none⟩)/\b<w.heap.size/\¬ X b/\bn w b o cs/\Rd w S1 (τ.aI y) cs:=by
 obtain⟨b,o,cs,k1,k2,k3,k4⟩:=AR (S:=S1) h1 bP eN hy hx;refine⟨b,o,cs,k1,k2,?_,k3,k4⟩;unfold deref at hy;split at hy;case h_2=>cases hy
 case h_1 u hu =>
 cases v with
 | cP z =>
  obtain⟨b',o',dt,q1,q2,_⟩:=hx;rw[k1] at q1;simp only[a9P,a7v,a9n] at q1;obtain⟨rfl,_⟩:=q1;exact λ hb=>qU _ hb q2
 | ptr id off =>
  obtain⟨b',q1,q2,_⟩:=hx;rw[k1] at q2;simp only[a9P,a7v,a9n] at q2;obtain⟨rfl,_⟩:=q2;simp only[oN] at hu;split at hu
  .rename_i R9 ij;exact jI id _ _ ij (by rw[q1];rfl)
  .cases hu
 | dS id i off =>
  obtain⟨b',n',Mj,e',aT,cF,q1,q2,q3,q4⟩:=hx;rw[k1] at q4;simp only[a9P,a7v,a9n] at q4;obtain⟨rfl,_⟩:=q4;simp only[oN] at hu;split at hu
  .rename_i hr;exact jI id _ _ hr (by rw[q1];rfl)
  .cases hu
 | _=>simp[oN] at hu
theorem AM(h1:Inv c G s a w){S1 X:Nat->Prop}{lk':Nat->Option aw}(bP:∀ id o,lk' id=some o->s.ag id=some o)(eN:∀ (τ:Ty) v x (y:τ.den),ri lk' τ v=some y->VR c G s.ag w v x->du w S1 ⟨τ,y⟩ x)
  (qU:∀ b,X b->¬ St c G.S b) (jI:∀ id o b,lk' id=some o->dx (G.η id)=some b->¬ X b):∀ {ks:List (Bool×Ty)} {vs:List AV} {Z9:List Arg} {xs:List Value},mP lk' ks vs=some Z9->aM (CR c G s.ag w) vs xs->aM (a1F w S1 X) Z9 xs
 | [],[],Z9,xs,h,hv=>by
  simp only[mP,a7v] at h;subst h;match xs,hv with
  | [],_=>trivial
 | (true,τ)::ks,v::vs,Z9,xs,h,hv=>by
  simp only[mP] at h;split at h
  .rename_i y hy;split at h
   .rename_i r hr;simp only[a7v] at h;subst h;match xs,hv with
    | x::xs,hv=>exact⟨NV h1 bP eN qU jI hy hv.1.eQ,AM h1 bP eN qU jI hr hv.2⟩
   .cases h
  .cases h
 | (false,τ)::ks,v::vs,Z9,xs,h,hv=>by
  simp only[mP] at h;split at h
  .rename_i y hy;split at h
   .rename_i r hr;simp only[a7v] at h;subst h;match xs,hv with
    | x::xs,hv=>exact⟨eN _ _ _ _ hy hv.1.eQ,AM h1 bP eN qU jI hr hv.2⟩
   .cases h
  .cases h
 | [],_::_,_,_,h,_=>by cases h
 | (true,_)::_,[],_,_,h,_=>by cases h
 | (false,_)::_,[],_,_,h,_=>by cases h
theorem T9(hE:bo c.P c.E)(h1:Inv c G s a w){S1 X:Nat->Prop}(KB:∀ b,G.S b->S1 b){lk':Nat->Option aw}(bP:∀ id o,lk' id=some o->s.ag id=some o)(eN:∀ (τ:Ty) v x (y:τ.den),ri lk' τ v=some y->VR c G s.ag w v x->du w S1 ⟨τ,y⟩ x)
  (qU:∀ b,X b->¬ St c G.S b) (jI:∀ id o b,lk' id=some o->dx (G.η id)=some b->¬ X b) {g:AV} {x:Value} {q:FV} {B:Nat->Nat} (h:ye c.E lk' g=some q) (hx:VR c G s.ag w g x):Pc c.P w S1 X B (.cK q) x:=by
 unfold ye at h;split at h
 .rename_i f cs;split at h
  .rename_i k _;split at h
   .rename_i Z9 has;simp only[a7v] at h;subst h;obtain⟨l,k1,k2⟩:=hx;exact⟨f,Z9,l,k1,sa hE _ _ _,AM h1 bP eN qU jI has k2⟩
   .cases h
  .cases h
 .simp only[a7v] at h;subst h;obtain⟨f,dY,l,k1,k2,k3⟩:=hx;refine⟨f,dY,l,k1,k2,k3.imp λ u y _ hy=>?_⟩;cases u with
  | val v=>exact du.mono (G:=G) (G':=⟨S1,G.η,G.φ⟩) hy KB (λ _ _=>rfl)
  | ref v =>
   obtain⟨b,o,cs,k1,k2,k3,k4⟩:=hy;refine⟨b,o,cs,k1,?_,λ hb=>qU b hb k2,k3,Rd.aK KB (λ _ _=>rfl) _ k4⟩;exact k2.elim (h1.dy b) λ k=>a7F k.1 h1.aK.size
  | fn f=>exact hy
  | _=>exact hy.elim
 .rename_i f;split at h
  .rename_i k _;split at h
   .simp only[a7v] at h;subst h;exact⟨f,[],[],hx,sa hE _ _ _,af⟩
   .cases h
  .cases h
 .cases h
theorem ph(hE:bo c.P c.E)(h1:Inv c G s a w){mf:List (Nat×Nat)}{S1 X:Nat->Prop}(KB:∀ b,G.S b->S1 b){lk':Nat->Option aw}(bP:∀ id o,lk' id=some o->s.ag id=some o)
  (eN:∀ (τ:Ty) v x (y:τ.den),ri lk' τ v=some y->VR c G s.ag w v x->du w S1 ⟨τ,y⟩ x) (qU:∀ b,X b->¬ St c G.S b) (jI:∀ id o b,lk' id=some o->dx (G.η id)=some b->¬ X b) {lk0:Nat->Option aw} :
  ∀ {fl:List (Option Nat)} {Ts:List TypeId} {vs RT:List AV} {xs:List Value} {Z9:List Arg},nv c.E lk' fl Ts vs=some Z9->aM (VR c G s.ag w) vs xs->aM (VR c G lk0 w) RT xs ->
   (∀ (i k:Nat),fl[i]?=some (some k)->∃ id,RT[i]?=some (AV.ptr id 0)/\ag mf k=some id)->aM (Pc c.P w S1 X (jw G mf)) Z9 xs
 | [],[],[],RT,xs,Z9,h,hv,_,_=>by
  simp only[nv,a7v] at h;subst h;match xs,hv with
  | [],_=>trivial
 | some k::fl,T::Ts,v::vs,RT,xs,Z9,h,hv,G7,hb=>by
  simp only[nv] at h;split at h;case h_2=>cases h
  case h_1 r hr =>
  simp only[a7v] at h;subst h;match xs,RT,hv,G7 with
  | x::xs,v0::RT,hv,G7 =>
   obtain⟨id,q1,q2⟩:=hb 0 k rfl;simp only[List.getElem?_cons_zero,Option.some.injEq] at q1;subst q1;have hp:VR c G lk0 w (.ptr id 0) x:=G7.1;obtain⟨b,k1,k2,_⟩:=hp;refine⟨?_,ph hE h1 KB bP eN qU jI hr hv.2 G7.2 λ i k' q=>by simpa using hb (i+1) k' (by simpa using q)⟩;show x = .pointer (some ⟨jw G mf k,0,none⟩);simp only[jw,q2,k1];exact k2
  | x::xs,[],_,G7=>exact G7.elim
 | none::fl,T::Ts,v::vs,RT,xs,Z9,h,hv,G7,hb=>by
  simp only[nv] at h;split at h;case h_2=>cases h
  case h_1 z hz =>
  split at h;case h_2=>cases h
  case h_1 r hr =>
  simp only[a7v] at h;subst h;match xs,RT,hv,G7 with
  | x::xs,v0::RT,hv,G7 =>
   refine⟨?_,ph hE h1 KB bP eN qU jI hr hv.2 G7.2 λ i k' q=>by simpa using hb (i+1) k' (by simpa using q)⟩;unfold L4 at hz;split at hz
   .rename_i τ q hT;split at hz
    .rename_i y hy;simp only[a7v] at hz;subst hz;exact eN _ _ _ _ hy hv.1
    .cases hz
   .split at hz
    .rename_i τ hT;split at hz
     .rename_i y hy;simp only[a7v] at hz;subst hz;exact NV h1 bP eN qU jI hy hv.1
     .cases hz
    .split at hz
     .rename_i q hq;simp only[a7v] at hz;subst hz;exact T9 hE h1 KB bP eN qU jI hq hv.1
     .split at hz
      .rename_i f;simp only[a7v] at hz;subst hz;exact hv.1
      .cases hz
  | x::xs,[],_,G7=>exact G7.elim
 | [],_::_,_,_,_,_,h,_,_,_=>by simp[nv] at h
 | [],[],_::_,_,_,_,h,_,_,_=>by simp[nv] at h
 | some _::_,[],_,_,_,_,h,_,_,_=>by simp[nv] at h
 | none::_,[],_,_,_,_,h,_,_,_=>by simp[nv] at h
 | some _::_,_::_,[],_,_,_,h,_,_,_=>by simp[nv] at h
 | none::_,_::_,[],_,_,_,h,_,_,_=>by simp[nv] at h
def ft:List CK->List TV->List TV
 | .d _::ks,_::ds=>ft ks ds
 | .o _::ks,v::ds=>v::ft ks ds
 | .p _::ks,ds=>ft ks ds
 | _,_=>[]
def qK:List CK->List Value->List Value
 | .o _::ks,x::xs=>x::qK ks xs
 | _::ks,_::xs=>qK ks xs
 | _,_=>[]
theorem ji.tJ{S:Nat->Prop}{B:Nat->Nat}:∀ {ks:List CK} {ds:List TV} {l:List Value} {fp:List Nat},ji w S B ks ds l fp->cW w ((ft ks ds).map TV.aI) (qK ks l) fp/\(∀ u∈ft ks ds,u.τ.agg=false)/\(ft ks ds).length=(qK ks l).length
 | [],[],[],fp,h=>⟨⟨rfl,h⟩,by simp[ft],rfl⟩
 | .d τ::ks,v::ds,x::xs,fp,h=>by
  obtain⟨_,h2⟩:=h;obtain⟨k1,k2,k3⟩:=ji.tJ h2;exact⟨k1,k2,k3⟩
 | .o τ::ks,v::ds,x::xs,fp,h=>by
  obtain⟨f1,f2,rfl,⟨e,h1,h2⟩,h3⟩:=h;obtain⟨k1,k2,k3⟩:=ji.tJ h3;refine⟨⟨x,qK ks xs,f1,f2,rfl,rfl,h2,k1⟩,λ u hu=>?_,by simp[ft,qK,k3]⟩;rcases a7J.1 hu with rfl|hu
  .rw[e];exact h1
  .exact k2 u hu
 | .p j::ks,ds,x::xs,fp,h=>by
  have h:x = .pointer (some ⟨B j,0,none⟩)/\ji w S B ks ds xs fp:=by cases ds<;>exact h
  obtain⟨k1,k2,k3⟩:=ji.tJ h.2;refine⟨?_,?_,?_⟩<;>cases ds<;>first|exact k1|exact k2|exact k3
 | [],_::_,_,_,h=>h.elim
 | [],[],_::_,_,h=>h.elim
 | .d _::_,[],_,_,h=>by cases h
 | .o _::_,[],_,_,h=>by cases h
 | .d _::_,_::_,[],_,h=>by cases h
 | .o _::_,_::_,[],_,h=>by cases h
 | .p _::_,ds,[],_,h=>by cases ds<;>cases h
theorem zQ:∀ (n:Nat) (a b:List TV),bT n (a++b)=bT n a++bT (n+a.length) b
 | n,[],b=>by simp[bT]
 | n,u::a,b=>by
  have:=zQ (n+1) a b;simp only[a8p,bT,this,a8c,a7I];rw[show n+1+a.length=n+(a.length+1) by omega]
theorem xI:∀ (n:Nat) (a b:List TV),dG n (a++b)=dG n a++dG (n+a.length) b
 | n,[],b=>by simp[dG]
 | n,u::a,b=>by
  have:=xI (n+1) a b;simp only[a8p,dG,this,a7I];rw[show n+1+a.length=n+(a.length+1) by omega]
theorem cW.append:∀ {a b:List D} {x y:List Value} {f g:List Nat},cW w a x f->cW w b y g->cW w (a++b) (x++y) (f++g)
 | [],b,x,y,f,g,h,k=>by
  obtain⟨rfl,rfl⟩:=h;exact k
 | d::a,b,x,y,f,g,h,k=>by
  obtain⟨v,r,f1,f2,rfl,rfl,h3,h4⟩:=h;exact⟨v,r++y,f1,f2++g,rfl,by simp,h3,h4.append k⟩
theorem nr{m:List (Nat×Nat)}{S:Nat->Prop}{B:Nat->Nat}{G':Gh}{lk':Nat->Option aw}(hS:∀ b,S b->G'.S b)(hB:∀ j id,ag m j=some id->G'.η id = .pointer (some ⟨B j,0,none⟩)/\gH (lk' id)=true) :
  ∀ {ks:List CK} {cs:List AV} {ds:List TV} {n n':Nat} {r:List AV} {os:List (Nat×aw)} {l:List Value} {fp:List Nat},bN m ks cs ds n=some (r,os,n')->ji w S B ks ds l fp->aM (C1 c G' lk' w) (dG n (ft ks ds)) (qK ks l) ->
   aM (C1 c G' lk' w) r l
 | [],[],[],n,n',r,os,l,fp,h,hb,hc=>by
  simp only[bN,a7v,a7x] at h;obtain⟨rfl,rfl,rfl⟩:=h;match l,hb with
  | [],_=>trivial
 | .d τ::ks,c0::cs,v::ds,n,n',r,os,l,fp,h,hb,hc=>by
  simp only[bN] at h;split at h;case h_2=>cases h
  case h_1 hv =>
  split at h;case h_2=>cases h
  case h_1 r1 S3 n1 hr =>
  simp only[a7v,a7x] at h;obtain⟨rfl,rfl,rfl⟩:=h;match l,hb with
  | x::l,hb =>
   obtain⟨⟨e,h1,h2⟩,h3⟩:=hb;exact⟨⟨by rw[e];exact h1,Rd.aK hS (λ _ _=>rfl) _ h2⟩,nr hS hB hr h3 hc⟩
 | .o τ::ks,c0::cs,v::ds,n,n',r,os,l,fp,h,hb,hc=>by
  simp only[bN] at h;split at h;case h_2=>cases h
  case h_1 hv =>
  split at h;case h_2=>cases h
  case h_1 r1 S3 n1 hr =>
  simp only[a7v,a7x] at h;obtain⟨rfl,rfl,rfl⟩:=h;match l,hb with
  | x::l,hb =>
   obtain⟨f1,f2,rfl,⟨e,h1,h2⟩,h3⟩:=hb;exact⟨hc.1,nr hS hB hr h3 hc.2⟩
 | .p j::ks,c0::cs,ds,n,n',r,os,l,fp,h,hb,hc=>by
  simp only[bN] at h;split at h;case h_2=>cases h
  case h_1 id =>
  split at h;case h_2=>cases h
  case h_1 i hi =>
  split at h;case h_2=>cases h
  case h_1 r1 S3 n1 YR hr =>
  have YR:=a7w YR;subst YR;simp only[a7v,a7x] at h;obtain⟨rfl,rfl,rfl⟩:=h;match l,hb with
  | x::l,hb =>
   have hb:x = .pointer (some ⟨B j,0,none⟩)/\ji w S B ks ds l fp:=by cases ds<;>exact hb
   have hc:aM (C1 c G' lk' w) (dG n (ft ks ds)) (qK ks l):=by cases ds<;>exact hc
   obtain⟨q1,q2⟩:=hB j i hi;exact⟨⟨B j,q1,hb.1,q2⟩,nr hS hB hr hb.2 hc⟩
  | [],hb=>cases ds<;>cases hb
 | [],_::_,_,_,_,_,_,_,_,h,_,_=>by simp[bN] at h
 | [],[],_::_,_,_,_,_,_,_,h,_,_=>by simp[bN] at h
 | .d _::_,[],_,_,_,_,_,_,_,h,_,_=>by simp[bN] at h
 | .o _::_,[],_,_,_,_,_,_,_,h,_,_=>by simp[bN] at h
 | .p _::_,[],ds,_,_,_,_,_,_,h,_,_=>by cases ds<;>simp[bN] at h
 | .d _::_,_::_,[],_,_,_,_,_,_,h,_,_=>by simp[bN] at h
 | .o _::_,_::_,[],_,_,_,_,_,_,h,_,_=>by simp[bN] at h
theorem rz{m:List (Nat×Nat)}:∀ {ks:List CK} {cs:List AV} {ds:List TV} {n n':Nat} {r:List AV} {os:List (Nat×aw)},bN m ks cs ds n=some (r,os,n')->os=bT n (ft ks ds)/\n'=n+(ft ks ds).length
 | [],[],[],n,n',r,os,h=>by
  simp only[bN,a7v,a7x] at h;obtain⟨rfl,rfl,rfl⟩:=h;exact⟨rfl,rfl⟩
 | .d τ::ks,c0::cs,v::ds,n,n',r,os,h=>by
  simp only[bN] at h;split at h;case h_2=>cases h
  case h_1 hv =>
  split at h;case h_2=>cases h
  case h_1 r1 S3 n1 hr =>
  simp only[a7v,a7x] at h;obtain⟨rfl,rfl,rfl⟩:=h;obtain⟨e1,e2⟩:=rz hr;exact⟨e1,e2⟩
 | .o τ::ks,c0::cs,v::ds,n,n',r,os,h=>by
  simp only[bN] at h;split at h;case h_2=>cases h
  case h_1 hv =>
  split at h;case h_2=>cases h
  case h_1 r1 S3 n1 hr =>
  simp only[a7v,a7x] at h;obtain⟨rfl,rfl,rfl⟩:=h;obtain⟨e1,e2⟩:=rz hr;exact⟨by rw[e1];rfl,by rw[e2];simp[ft];omega⟩
 | .p j::ks,c0::cs,ds,n,n',r,os,h=>by
  simp only[bN] at h;split at h;case h_2=>cases h
  case h_1 id =>
  split at h;case h_2=>cases h
  case h_1 i hi =>
  split at h;case h_2=>cases h
  case h_1 r1 S3 n1 YR hr =>
  simp only[a7v,a7x] at h;obtain⟨rfl,rfl,rfl⟩:=h;obtain⟨e1,e2⟩:=rz hr;cases ds<;>exact⟨e1,e2⟩
 | [],_::_,_,_,_,_,_,h=>by simp[bN] at h
 | [],[],_::_,_,_,_,_,h=>by simp[bN] at h
 | .d _::_,[],_,_,_,_,_,h=>by simp[bN] at h
 | .o _::_,[],_,_,_,_,_,h=>by simp[bN] at h
 | .p _::_,[],ds,_,_,_,_,h=>by cases ds<;>simp[bN] at h
 | .d _::_,_::_,[],_,_,_,_,h=>by simp[bN] at h
 | .o _::_,_::_,[],_,_,_,_,h=>by simp[bN] at h
theorem Inv.a0L{s1:ah}(h1:Inv c G s1 a w){S' X:Nat->Prop}{Bz:Nat->Option aw}(hk:bJ X w w')(hX:∀ b,X b->c.w0.heap.size<=b\/c.X b)(hXS:∀ b,X b->¬ G.S b)
  (hS:∀ b,G.S b->S' b) (Sk:∀ b,S' b->b<w'.heap.size) (Ur:∀ b,b<w.heap.size->¬ X b->(S' b↔G.S b))
  (iU:∀ id,(Bz id=s1.ag id/\∀ o b,s1.ag id=some o->dx (G.η id)=some b->¬ X b) \/
   ∃ cs dt,s1.ag id=some (.box cs)/\Bz id=some (.box dt)/\(∀ b,dx (G.η id)=some b->¬ S' b)/\∃ b l t,G.η id = .pointer (some ⟨b,0,none⟩)/\w'.heap[b]?=some (.cells l.toArray t (0,0))/\∀ (G:Gh) (lk:Nat->Option aw),aM (C1 c G lk w') dt l)
  (nD:∀ id τ xs b,s1.ag id=some (.aC τ xs)->b∈G.φ id->¬ X b):bf c ⟨S',G.η,G.φ⟩ s1.sl s1.aA.length Bz a w':=by
 have fh:∀ id,eg (s1.ag id) (Bz id):=λ id=>by
  rcases iU id with ⟨e,_⟩|⟨cs,dt,e1,e2,_⟩
  .rw[e];exact eg.refl _
  .rw[e1,e2];exact⟨λ _=>rfl,(λ e τ xs q=>by cases q),(λ q=>by cases q),λ q=>by cases q⟩
 have bU:∀ b,St c G.S b->w'.heap[b]?=w.heap[b]?:=λ b hb=>by
  rcases hb with hb|hb
  .exact hk.block b (h1.dy b hb) λ q=>hXS b q hb
  .exact hk.block b (a7F hb.1 h1.aK.size) λ q=>(hX b q).elim (λ q=>by omega) hb.2.1
 have hold:∀ id o,Bz id=some o->∃ o',s1.ag id=some o'/\(∀ τ xs,o = .aC τ xs->o' = .aC τ xs):=λ id o ho=>by
  rcases iU id with ⟨e,_⟩|⟨cs,dt,e1,e2,_⟩
  .exact⟨o,by rw[<-e];exact ho,λ τ xs q=>q⟩
  .rw[e2] at ho;simp only[a7v] at ho;exact⟨_,e1,λ τ xs q=>by rw[q] at ho;cases ho⟩
 have Ak:∀ id τ xs,Bz id=some (.aC τ xs)->s1.ag id=some (.aC τ xs):=λ id τ xs ht=>by
  obtain⟨o',q1,q2⟩:=hold id _ ht;rw[q1,q2 τ xs rfl]
 exact {
  defers:=h1.defers,size:=h1.size
  aK:=h1.aK.trans hk λ i hi hy=>(hX i hy).elim (λ q=>by omega) id
  iY:=h1.iY
  dZ:=λ b hb hx=>(Ur b (a7F hb h1.aK.size) λ q=>(hX b q).elim (λ q=>by omega) hx).trans (h1.dZ b hb hx)
  sX:=λ b hb=>hS b (h1.sX b hb)
  dy:=Sk
  aA:=λ i=>(h1.aA i).mono (λ id _=>⟨fh id,rfl⟩) hS bU
  aH:=λ id o ho=>by
   rcases iU id with ⟨e,e'⟩|⟨cs,dt,e1,e2,_,b,l,t,e3,e4,e5⟩
   .rw[e] at ho;exact (h1.aH id o ho).mono rfl (λ b hb=>hk.block b (h1.place id o b ho hb).2.2 (e' o b ho hb)) (λ j _=>⟨fh j,rfl⟩) hS bU
   .rw[e2] at ho;simp only[a7v] at ho;subst ho;exact⟨b,l,t,e3,e4,e5 _ _⟩
  place:=λ id o b ho hb=>by
   obtain⟨o',q1,_⟩:=hold id o ho;obtain⟨p1,p2,p3⟩:=h1.place id o' b q1 hb;refine⟨p1,?_,a7F p3 hk.size⟩;rcases iU id with ⟨e,e'⟩|⟨cs,dt,e1,e2,e3,_⟩
   .exact λ q=>p2 ((Ur b p3 (e' o' b q1 hb)).1 q)
   .exact e3 b hb
  apart:=λ id di o o' b ho cH hb cv=>by
   obtain⟨p,q1,_⟩:=hold id o ho;obtain⟨p',q2,_⟩:=hold di o' cH;exact h1.apart id di p p' b q1 q2 hb cv
  aN:={
   tr:=λ id τ xs ht=>(h1.aN.tr id τ xs (Ak id τ xs ht)).aK λ b hb=>hk.block b (h1.aN.pl id τ xs b (Ak id τ xs ht) hb).2.2.1 (nD id τ xs b (Ak id τ xs ht) hb)
   nd:=λ id τ xs ht=>h1.aN.nd id τ xs (Ak id τ xs ht)
   pl:=λ id τ xs b ht hb=>by
    obtain⟨p1,p2,p3,p4⟩:=h1.aN.pl id τ xs b (Ak id τ xs ht) hb;refine⟨p1,λ q=>p2 ((Ur b p3 (nD id τ xs b (Ak id τ xs ht) hb)).1 q),a7F p3 hk.size,λ i o ho=>?_⟩;obtain⟨o',q1,_⟩:=hold i o ho;exact p4 i o' q1
   ap:=λ id di τ aT xs cF b ht II=>h1.aN.ap id di τ aT xs cF b (Ak id τ xs ht) (Ak di aT cF II) }
  root:=λ id v hr ht=>h1.root id v hr (by
   match hl:Bz id,ht with
   | some (.aC τ xs),_=>rw[Ak id τ xs hl];rfl)
  fE:=h1.fE
  dq:=λ id v hr ht=>h1.dq id v hr (by
   rcases iU id with ⟨e,_⟩|⟨cs,dt,e1,e2,_⟩
   .rw[<-e];exact ht
   .rw[e1];rfl)
  eF:=h1.eF }
theorem bf.a6d{sl:Nat->AV}{n:Nat}{lk lk2:Nat->Option aw}(h:bf c G sl n lk a w)(iU:∀ id,lk2 id=lk id\/∃ cs dt,lk id=some (.box cs)/\lk2 id=some (.box dt)/\∃ b l t,G.η id = .pointer (some ⟨b,0,none⟩)/\w.heap[b]?=some (.cells l.toArray t (0,0))/\aM (C1 c G lk2 w) dt l) :
  bf c G sl n lk2 a w:=by
 have fh:∀ id,eg (lk id) (lk2 id):=λ id=>by
  rcases iU id with e|⟨cs,dt,e1,e2,_⟩
  .rw[e];exact eg.refl _
  .rw[e1,e2];exact⟨λ _=>rfl,(λ e τ xs q=>by cases q),(λ q=>by cases q),λ q=>by cases q⟩
 have hold:∀ id o,lk2 id=some o->∃ o',lk id=some o'/\(∀ τ xs,o = .aC τ xs->o' = .aC τ xs):=λ id o ho=>by
  rcases iU id with e|⟨cs,dt,e1,e2,_⟩
  .exact⟨o,by rw[<-e];exact ho,λ τ xs q=>q⟩
  .rw[e2] at ho;simp only[a7v] at ho;exact⟨_,e1,λ τ xs q=>by rw[q] at ho;cases ho⟩
 have Ak:∀ id τ xs,lk2 id=some (.aC τ xs)->lk id=some (.aC τ xs):=λ id τ xs ht=>by
  obtain⟨o',q1,q2⟩:=hold id _ ht;rw[q1,q2 τ xs rfl]
 exact {
  defers:=h.defers,size:=h.size,aK:=h.aK,iY:=h.iY,dZ:=h.dZ,sX:=h.sX,dy:=h.dy
  aA:=λ i=>(h.aA i).mono (λ id _=>⟨fh id,rfl⟩) (λ _ q=>q) (λ _ _=>rfl)
  aH:=λ id o ho=>by
   rcases iU id with e|⟨cs,dt,e1,e2,b,l,t,e3,e4,e5⟩
   .rw[e] at ho;exact (h.aH id o ho).mono rfl (λ _ _=>rfl) (λ j _=>⟨fh j,rfl⟩) (λ _ q=>q) (λ _ _=>rfl)
   .rw[e2] at ho;simp only[a7v] at ho;subst ho;exact⟨b,l,t,e3,e4,e5⟩
  place:=λ id o b ho hb=>by
   obtain⟨o',q1,_⟩:=hold id o ho;exact h.place id o' b q1 hb
  apart:=λ id di o o' b ho cH hb cv=>by
   obtain⟨p,q1,_⟩:=hold id o ho;obtain⟨p',q2,_⟩:=hold di o' cH;exact h.apart id di p p' b q1 q2 hb cv
  aN:={
   tr:=λ id τ xs ht=>h.aN.tr id τ xs (Ak id τ xs ht)
   nd:=λ id τ xs ht=>h.aN.nd id τ xs (Ak id τ xs ht)
   pl:=λ id τ xs b ht hb=>by
    obtain⟨p1,p2,p3,p4⟩:=h.aN.pl id τ xs b (Ak id τ xs ht) hb;refine⟨p1,p2,p3,λ i o ho=>?_⟩;obtain⟨o',q1,_⟩:=hold i o ho;exact p4 i o' q1
   ap:=λ id di τ aT xs cF b ht II=>h.aN.ap id di τ aT xs cF b (Ak id τ xs ht) (Ak di aT cF II) }
  root:=λ id v hr ht=>h.root id v hr (by
   match hl:lk2 id,ht with
   | some (.aC τ xs),_=>rw[Ak id τ xs hl];rfl)
  fE:=h.fE
  dq:=λ id v hr ht=>h.dq id v hr (by
   rcases iU id with e|⟨cs,dt,e1,e2,_⟩
   .rw[<-e];exact ht
   .rw[e1];rfl)
  eF:=h.eF }
theorem BN{m:List (Nat×Nat)}{S:Nat->Prop}{B:Nat->Nat}{lk:Nat->Option aw}:∀ {sh:List (List CK)} {k:Nat} {cA:List (List TV)} {n:Nat} {bs ts:List (Nat×aw)} {fp:List Nat},oB lk m sh k cA n=some (bs,ts)->gf w S B k sh cA fp ->
  ∃ tJ xs,ts=bT n tJ/\cW w (tJ.map TV.aI) xs fp/\(∀ u∈tJ,u.τ.agg=false) /\
   (∀ j,k<=j->j<k+sh.length->∃ (id:Nat) (dt:List AV) (l:List Value) (t:TypeId),ag m j=some id/\(id,aw.box dt)∈bs/\w.heap[B j]?=some (.cells l.toArray t (0,0))/\l.length=dt.length) /\
   (∀ p∈bs,∃ (j:Nat) (dt:List AV) (l:List Value) (t:TypeId),k<=j/\j<k+sh.length/\ag m j=some p.1/\p.2 = .box dt/\w.heap[B j]?=some (.cells l.toArray t (0,0))/\l.length=dt.length /\
    ∀ (G':Gh) (lk':Nat->Option aw),(∀ b,S b->G'.S b)->(∀ j id,ag m j=some id->G'.η id = .pointer (some ⟨B j,0,none⟩)/\gH (lk' id)=true)->aM (C1 c G' lk' w) (dG n tJ) xs->aM (C1 c G' lk' w) dt l)
 | [],k,[],n,bs,ts,fp,h,hb=>by
  simp only[oB,a7v,a7x] at h;obtain⟨rfl,rfl⟩:=h;exact⟨[],[],rfl,⟨rfl,hb⟩,by simp,λ j h1 h2=>by simp at h2;omega,by simp⟩
 | ks::sh,k,ds::cA,n,bs,ts,fp,h,hb=>by
  simp only[oB] at h;split at h;case h_2=>cases h
  case h_1 id aO =>
  split at h;case h_2=>cases h
  case h_1 cs ij =>
  split at h;case h_2=>cases h
  case h_1 r os n1 hr =>
  split at h;case h_2=>cases h
  case h_1 bs1 ts1 ub =>
  simp only[a7v,a7x] at h;obtain⟨rfl,rfl⟩:=h;obtain⟨l,t,f1,f2,rfl,hw,hB,hbs⟩:=hb;obtain⟨e1,e2⟩:=rz hr;obtain⟨tJ,xs,q1,q2,q3,q4,q5⟩:=BN ub hbs;obtain⟨o1,o2,o3⟩:=hB.tJ;have LA:∀ {G':Gh} {lk':Nat->Option aw},aM (C1 c G' lk' w) (dG n (ft ks ds++tJ)) (qK ks l++xs)->aM (C1 c G' lk' w) (dG n (ft ks ds)) (qK ks l)/\aM (C1 c G' lk' w) (dG n1 tJ) xs:=λ {G' lk'} q=>by
   rw[xI,<-e2] at q;have hl:(dG n (ft ks ds)).length=(qK ks l).length:=by
    rw[<-o3];have:∀ (us:List TV) (n:Nat),(dG n us).length=us.length:=λ us=>by
     induction us with
     | nil=>intro n;rfl
     | cons u us ih=>intro n;simp[dG,ih]
    exact this _ _
   have h1:=q.take (dG n (ft ks ds)).length;have h2:=q.drop (dG n (ft ks ds)).length;rw[a9W,hl,a9W] at h1;rw[b0o,hl,b0o] at h2;exact⟨h1,h2⟩
  have Zg:l.length=r.length:=by
   have:∀ {ks:List CK} {cs:List AV} {ds:List TV} {n n':Nat} {r:List AV} {os:List (Nat×aw)} {l:List Value} {fp:List Nat},bN m ks cs ds n=some (r,os,n')->ji w S B ks ds l fp->l.length=r.length:=by
    intro ks;induction ks with
    | nil =>
     intro cs ds n n' r os l fp h hb;cases cs<;>cases ds<;>simp[bN] at h;obtain⟨rfl,_⟩:=h;cases l with
     | nil=>rfl
     | cons x l=>cases hb
    | cons k0 ks ih =>
     intro cs ds n n' r os l fp h hb;cases l with
     | nil=>cases k0<;>cases ds<;>cases hb
     | cons x l =>
      cases k0 with
      | d τ =>
       cases cs with
       | nil=>simp[bN] at h
       | cons c0 cs =>
        cases ds with
        | nil=>cases hb
        | cons v ds =>
         simp only[bN] at h;split at h;case h_2=>cases h
         case h_1 hv =>
         split at h;case h_2=>cases h
         case h_1 r1 S3 n1 hr =>
         simp only[a7v,a7x] at h;obtain⟨rfl,rfl,rfl⟩:=h;obtain⟨_,h2⟩:=hb;simp[ih hr h2]
      | o τ =>
       cases cs with
       | nil=>simp[bN] at h
       | cons c0 cs =>
        cases ds with
        | nil=>cases hb
        | cons v ds =>
         simp only[bN] at h;split at h;case h_2=>cases h
         case h_1 hv =>
         split at h;case h_2=>cases h
         case h_1 r1 S3 n1 hr =>
         simp only[a7v,a7x] at h;obtain⟨rfl,rfl,rfl⟩:=h;obtain⟨_,_,_,_,h2⟩:=hb;simp[ih hr h2]
      | p j =>
       cases cs with
       | nil=>cases ds<;>simp[bN] at h
       | cons c0 cs =>
        have hb:x = .pointer (some ⟨B j,0,none⟩)/\ji w S B ks ds l fp:=by cases ds<;>exact hb
        simp only[bN] at h;split at h;case h_2=>cases h
        case h_1 id =>
        split at h;case h_2=>cases h
        case h_1 i hi =>
        split at h;case h_2=>cases h
        case h_1 r1 S3 n1 YR hr =>
        simp only[a7v,a7x] at h;obtain⟨rfl,rfl,rfl⟩:=h;simp[ih hr hb.2]
   exact this hr hB
  refine⟨ft ks ds++tJ,qK ks l++xs,by rw[zQ,e1,q1,e2],by rw[a8R];exact o1.append q2,λ u hu=>(a7y.1 hu).elim (o2 u) (q3 u),λ j h1 h2=>?_,λ p hp=>?_⟩
  .by_cases hj:j=k
   .subst hj;exact⟨id,r,l,t,aO,a9D ..,hw,Zg⟩
   .obtain⟨di,dt,l',t',g1,g2,g3,g4⟩:=q4 j (by omega) (by simp at h2;omega);exact⟨di,dt,l',t',g1,a8y _ g2,g3,g4⟩
  .rcases a7J.1 hp with rfl|hp
   .exact⟨k,r,l,t,a7P _,by simp,aO,rfl,hw,Zg,λ G' lk' h1 h2 h3=>nr h1 h2 hr hB (LA h3).1⟩
   .obtain⟨j,dt,l',t',g1,g2,g3,g4,g5,g7,g6⟩:=q5 p hp;exact⟨j,dt,l',t',by omega,by simp;omega,g3,g4,g5,g7,λ G' lk' h1 h2 h3=>g6 G' lk' h1 h2 (LA h3).2⟩
 | [],_,_::_,_,_,_,_,h,_=>by simp[oB] at h
 | _::_,_,[],_,_,_,_,h,_=>by simp[oB] at h
theorem vy{α:Type}:∀ {l:List (Nat×α)} {k:Nat},(∀ p∈l,p.1≠k)->ag l k=none
 | [],k,_=>rfl
 | (j,o)::l,k,h=>by
  rw[vx,a7z (λ e=>h (j,o) (by simp) e.symm)];exact vy λ p hp=>h p (by simp[hp])
theorem BA:∀ (ids:List Nat) (l:List (Nat×aw)) (i:Nat),ag (fD ids l) i=if i∈ids then none else ag l i
 | [],l,i=>by simp[fD]
 | id::r,l,i=>by
  rw[fD,BA r,dU];by_cases h1:i∈r
  .simp[h1]
  .by_cases h2:i=id
   .simp[h1,h2]
   .simp[h1,h2]
theorem Cn{m:List (Nat×Nat)}(h2:(m.map (·.2)).Nodup){j k id:Nat}(hj:ag m j=some id)(hk:ag m k=some id):j=k:=by
 have e1:=eX hj;have e2:=eX hk;have:(j,id)=(k,id):=by
  clear hj hk;induction m with
  | nil=>cases e1
  | cons p m ih =>
   simp only[a8d,a8b] at h2;rcases a7J.1 e1 with q1|e1
   .rcases a7J.1 e2 with q2|e2
    .rw[q1,q2]
    .exact absurd (a7B.2 ⟨(k,id),e2,by rw[<-q1]⟩) h2.1
   .rcases a7J.1 e2 with q2|e2
    .exact absurd (a7B.2 ⟨(j,id),e1,by rw[<-q2]⟩) h2.1
    .exact ih h2.2 e1 e2
 exact congrArg Prod.fst this
theorem wi{m:List (Nat×Nat)}{k id:Nat}(h:ag m k=some id):id∈m.map (·.2):=a7B.2 ⟨_,eX h,rfl⟩
theorem Xi{m:List (Nat×Nat)}{n:Nat}(h1:(m.map (·.1)).Nodup)(hl:m.length=n)(hk:∀ k,k<n->∃ id,ag m k=some id):∀ p∈m,p.1<n:=by
 have uH:List.range n ⊆ m.map (·.1):=λ k fg=>by
  obtain⟨id,q⟩:=hk k (a9i.1 fg);exact a7B.2 ⟨_,eX q,rfl⟩
 have IH:(m.map (·.1)) ⊆ List.range n:=by
  intro x hx;refine b0i λ hn=>?_;have h3:(x::List.range n).Nodup:=a8b.2 ⟨hn,b1a⟩;have h4:(x::List.range n) ⊆ m.map (·.1):=λ y hy=>(a7J.1 hy).elim (λ e=>e ▸ hx) (λ hy=>uH hy);have:=a9S h3 h4;simp at this;omega
 exact λ p hp=>a9i.1 (IH (a7B.2 ⟨p,hp,rfl⟩))
theorem TH(hE:bo c.P c.E)(h:Inv c G s a w){o:Oper}{cl:Call}{d:Nat}{f:FuncId}(hd:o.dst=some d)(bh:o.op = .call cl)(e9:cl.callee = .value (.func f)){vc:Vc}{s':ah}(hq:RQ c.E s d f cl.argTypes.toList (cl.args.toList.map s.eval)=some (vc,s'))(dO:vc.ok){Q:Exit->Act->World->Prop} :
  o.wp c.P a w (λ a' w'=>∃ G',Inv c G' s' a' w') Q:=by
 unfold RQ at hq;split at hq;case h_2=>cases hq
 case h_1 id rv hrv =>
 split at hq;case h_2=>cases hq
 case h_1 τ xs aO =>
 split at hq;case h_2=>cases hq
 case h_1 Z9 has =>
 split at hq;case h_2=>cases hq
 case h_1 pre ys hc xi =>
 simp only[a7v,a7x] at hq;obtain⟨rfl,rfl⟩:=hq;obtain⟨oi,jf⟩:=hE.Kl f Z9 τ xs pre ys hc dO;have hl:cl.args.toList.map s.eval=rv.reverse++[.aC id]:=by
  have:=congrArg List.reverse hrv;simpa using this
 have fT:=aM.iL (lk:=s.ag) (aX h) cl.args.toList;rw[hl] at fT;have LA:∀ (us:List AV) (zs:List Value),aM (VR c G s.ag w) (us++[.aC id]) zs->∃ z1 v,zs=z1++[v]/\aM (VR c G s.ag w) us z1/\VR c G s.ag w (.aC id) v:=by
  intro us;induction us with
  | nil =>
   intro zs hz;match zs,hz with
   | [v],hz=>exact⟨[],v,rfl,af,hz.1⟩
  | cons u us ih =>
   intro zs hz;match zs,hz with
   | z::zs,hz =>
    obtain⟨z1,v,e,h1,h2⟩:=ih zs hz.2;exact⟨z::z1,v,by rw[e];rfl,⟨hz.1,h1⟩,h2⟩
 obtain⟨z1,v,hz,IJ,hv⟩:=LA _ _ fT;have MZ:=λ b hb=>h.aN.pl id τ xs b aO hb;have dE:=ph hE h (mf:=[]) (S1:=G.S) (X:=λ b=>b∈G.φ id) (λ _ q=>q) (λ id o ho=>(rI ho).1) (λ τ v x y q1 q2=>wC (λ id e τ xs q=>by obtain⟨_,_,cs,e⟩:=rI q;cases e) (λ id τ xs q=>by obtain⟨_,_,cs,e⟩:=rI q;cases e) q1 q2)
  (λ b hb q=>by
   obtain⟨p1,p2,_⟩:=MZ b hb;rcases q with q|⟨q,q3,_⟩
   .exact p2 q
   .exact p1.elim (λ q=>by omega) q3) (λ i o b ho hb hx=>(MZ b hx).2.2.2 i o (rI ho).1 hb) (lk0:=s.ag) has IJ IJ (λ i k hk=>by simp at hk)
 obtain⟨_,l,eI,wa⟩:=hv;have hO:=Ow.UZ (h.aN.tr id τ xs aO) eI;unfold Oper.wp;rw[fM bh e9 rfl oi];simp only[Oper.upon];rw[hz];have hbo:(λ i=>jw G [] i)=λ _=>0:=rfl;refine (jf w G.S z1 v (G.φ id) h.Vj dE hO (h.aN.nd id τ xs aO) (λ b hb=>⟨(MZ b hb).2.2.1,(MZ b hb).2.1⟩)).mono ?_;rintro e w' ⟨r,rfl,hk,A2,qf,V1,uH⟩;obtain⟨l',hT,_⟩:=gL.UY (τ:=τ) qf;rw[hd];show ∃ G',Inv c G' ((s.bX.fb id τ ys).put (some d) .any) (a.put (some d) r) w';refine h.Wu (w':=w') (t:=s.bX.fb id τ ys) (A:=[(id,(.tuple (v::l').toArray,A2, .aC τ ys))]) ?_ ?_ ?_ (by simp) hk (λ b hb=>⟨_,List.mem_singleton.2 rfl,hb⟩) rfl (λ i=>?_) (λ G' lk=>trivial)
 .intro p hp;simp only[a7O] at hp;subst hp;exact⟨τ,xs,_,v,l,l',aO,rfl,eI,rfl,hT,V1⟩
 .intro p hp b hb;simp only[a7O] at hp;subst hp;rcases uH b hb with q|q
  .exact .inl ⟨_,a7O.2 rfl,q⟩
  .exact .inr (YE h q.1 q.2)
 .intro p hp q hq b _ _;simp only[a7O] at hp hq;rw[hp,hq]
 .rw[Ol,ja]
theorem Vm(hE:bo c.P c.E)(h:Inv c G s a w){o:Oper}{vc:Vc}{s':ah}(hq:RF c.E s o=some (vc,s'))(dO:vc.ok){Q:Exit->Act->World->Prop} :
  o.wp c.P a w (λ a' w'=>∃ G',Inv c G' s' a' w') Q:=by
 unfold RF at hq;split at hq;case h_2=>cases hq
 case h_1 d hd =>
 split at hq;case h_2=>cases hq
 case h_1 cl bh =>
 split at hq;case h_2=>cases hq
 case h_1 f e9 =>
 split at hq;case h_2 =>
  split at hq;case h_1 r hr=>exact TH hE h hd bh e9 (hr.trans hq) dO
  case h_2 =>
   cases hq
 case h_1 sk hsk =>
 split at hq;case h_2=>cases hq
 case h_1 m0 hm0 =>
 split at hq;case h_2=>cases hq
 case h_1 cA ids m hm =>
 split at hq;case h_2=>cases hq
 case h_1 a2q =>
 split at hq;case h_2=>cases hq
 case h_1 Z9 has =>
 split at hq;case h_2=>cases hq
 case h_1 pre res eD hc =>
 split at hq;case h_2=>cases hq
 case h_1 bs ts nM =>
 split at hq;case h_2=>cases hq
 case h_1 Da =>
 simp only[Option.some.injEq,Prod.mk.injEq] at hq;obtain⟨rfl,rfl⟩:=hq;simp only[Bool.and_eq_true] at a2q;obtain⟨UC,W2,W3,hn4⟩:=a2q;have UC:=dh UC;have W2:=dh W2;have W3:=dh W3;have hn4:=Nat.eq_of_beq_eq_true hn4;simp only[Bool.and_eq_true,List.all_eq_true] at Da;have qh:∀ p∈bc (bF d) res++ts,(ids.foldl ah.gone s).ag p.1=none:=λ p hp=>by simpa using Da.1 p hp
 have nL:=dh Da.2;obtain⟨oi,jf⟩:=hE.P3 f sk Z9 cA pre res eD hsk hc dO;obtain⟨_,QQ⟩:=rZ hm0;obtain⟨Xc,a1b,fa,WT,VW,a5J⟩:=zT h hm UC;have WT:=WT m (jA.refl m);have QQ:∀ (i k:Nat),sk.ps[i]?=some (some k)->∃ id,(cl.args.toList.map s.eval)[i]?=some (AV.ptr id 0)/\ag m k=some id:=λ i k q=>by
  obtain⟨id,q1,q2⟩:=QQ i k q;exact⟨id,q1,Xc k id q2⟩
 have h1:Inv c G (ids.foldl ah.gone s) a w:=sH ids h;have hF:∀ b,b∈fa->rb c G (ids.foldl ah.gone s).ag w b:=λ b hb=>Gz h (a5J b hb);have yr:∀ k,k<sk.sh.length->∃ (id:Nat) (cs:List AV),ag m k=some id/\(ids.foldl ah.gone s).ag id=some (.box cs):=λ k hk=>by
  obtain⟨id,cs,q1,q2⟩:=a1b k (Nat.zero_le _) (by simpa using hk);refine⟨id,?_⟩;have aO:id∉ids:=λ hi=>by
   have:∀ {sh:List (List CK)} {k:Nat} {m m':List (Nat×Nat)} {cA:List (List TV)} {ids:List Nat},jR s.ag sh k m=some (cA,ids,m')->∀ i∈ids,∀ cs,s.ag i≠some (.box cs):=by
    have lf:∀ {ks:List CK} {cs:List AV} {m m':List (Nat×Nat)} {ds:List TV} {ids:List Nat},cM s.ag ks cs m=some (ds,ids,m')->∀ i∈ids,∀ cs,s.ag i≠some (.box cs):=by
     intro ks;induction ks with
     | nil =>
      intro cs m m' ds ids ht;cases cs<;>simp[cM] at ht;obtain⟨_,rfl,_⟩:=ht;simp
     | cons k0 ks ih =>
      intro cs m m' ds ids ht;cases cs with
      | nil=>cases k0<;>simp[cM] at ht
      | cons v cs =>
       cases k0 with
       | d τ =>
        simp only[cM] at ht;split at ht;case h_2=>cases ht
        case h_1 y hy y9 =>
        split at ht;case h_2=>cases ht
        case h_1 ds1 SF m1 hr =>
        simp only[a7v,a7x] at ht;obtain⟨_,rfl,_⟩:=ht;exact ih hr
       | o τ =>
        simp only[cM] at ht;split at ht;case h_2=>cases ht
        case h_1 y i hy y9 =>
        split at ht;case h_2=>cases ht
        case h_1 ds1 SF m1 hr =>
        simp only[a7v,a7x] at ht;obtain⟨_,rfl,_⟩:=ht;intro j hj R9;rcases a7y.1 hj with hj|hj
        .unfold eA at hy;split at hy
         .split at hy
          .simp only[a7v,a7x] at hy;obtain⟨_,rfl⟩:=hy;cases hj
          .cases hy
         .split at hy
          .simp only[a7v,a7x] at hy;obtain⟨_,rfl⟩:=hy;cases hj
          .cases hy
         .split at hy
          .rename_i hl;split at hy
           .simp only[a7v,a7x] at hy;obtain⟨_,rfl⟩:=hy;simp only[a7O] at hj;subst hj;rw[hl];simp
           .cases hy
          .cases hy
         .split at hy
          .rename_i hl;split at hy
           .simp only[a7v,a7x] at hy;obtain⟨_,rfl⟩:=hy;simp only[a7O] at hj;subst hj;rw[hl];simp
           .cases hy
          .cases hy
         .cases hy
        .exact ih hr j hj R9
       | p j =>
        simp only[cM] at ht;split at ht;case h_2=>cases ht
        case h_1 id =>
        split at ht
        .split at ht
         .exact ih ht
         .cases ht
        .exact ih ht
    intro sh;induction sh with
    | nil =>
     intro k m m' cA ids ht;simp only[jR,a7v,a7x] at ht;obtain⟨_,rfl,_⟩:=ht;simp
    | cons ks sh ih =>
     intro k m m' cA ids ht;simp only[jR] at ht;split at ht;case h_2=>cases ht
     case h_1 id aO =>
     split at ht;case h_2=>cases ht
     case h_1 cs ij =>
     split at ht;case h_2=>cases ht
     case h_1 ds i m1 hr =>
     split at ht;case h_2=>cases ht
     case h_1 a5i SF m2 ub =>
     simp only[a7v,a7x] at ht;obtain⟨_,rfl,_⟩:=ht;intro j hj R9;rcases a7y.1 hj with hj|hj
     .exact lf hr j hj R9
     .exact ih ub j hj R9
   exact this hm id hi cs q2
  have:∀ (ids:List Nat) (s:ah) (cs:List AV),id∉ids->s.ag id=some (.box cs)->∃ dt,(ids.foldl ah.gone s).ag id=some (.box dt):=by
   intro ids;induction ids with
   | nil=>intro s cs _ hs;exact⟨cs,hs⟩
   | cons i ids ih =>
    intro s cs hi hs;have dm:id≠i:=λ e=>hi (by simp[e]);refine ih (s.gone i) (cs.map (AV.kill i)) (λ q=>hi (by simp[q])) ?_;rw[yB,a7z dm,hs];rfl
  obtain⟨dt,q3⟩:=this ids s cs aO q2;exact⟨dt,q1,q3⟩
 generalize UG:ids.foldl ah.gone s=s1 at *
 have eI:∀ k id,ag m k=some id->k<sk.sh.length->G.η id = .pointer (some ⟨jw G m k,0,none⟩)/\dx (G.η id)=some (jw G m k):=λ k id hk bp=>by
  obtain⟨di,cs,q1,q2⟩:=yr k bp;rw[hk] at q1;simp only[a7v] at q1;subst q1;obtain⟨b,l,t,k1,_⟩:=h1.aH id _ q2;have:jw G m k=b:=by
   simp only[jw,hk,k1];rfl
  rw[this,k1];exact⟨rfl,rfl⟩
 have fT:=Xi W2 hn4 (λ k hk=>by obtain⟨id,_,q,_⟩:=yr k hk;exact⟨id,q⟩);have V0:∀ id,id∈m.map (·.2)->∃ k cs,k<sk.sh.length/\ag m k=some id/\s1.ag id=some (.box cs):=λ id aO=>by
  obtain⟨⟨k,di⟩,hp,rfl⟩:=a7B.1 aO;have hk:=fT _ hp;have hl:=ru W2 hp;obtain⟨id2,cs,q1,q2⟩:=yr k hk;rw[hl] at q1;simp only[a7v] at q1;subst q1;exact⟨k,cs,hk,hl,q2⟩
 have J3:∀ j k,j<sk.sh.length->k<sk.sh.length->jw G m j=jw G m k->j=k:=λ j k hj hk e=>by
  obtain⟨idj,csj,j1,j2⟩:=yr j hj;obtain⟨idk,csk,k1,k2⟩:=yr k hk;have:=h1.apart idj idk _ _ (jw G m j) j2 k2 (eI j idj j1 hj).2 (by rw[e];exact (eI k idk k1 hk).2);subst this;exact Cn W3 j1 k1
 have PG:∀ k,k<sk.sh.length->(c.w0.heap.size<=jw G m k\/c.X (jw G m k))/\¬ G.S (jw G m k)/\jw G m k<w.heap.size:=λ k hk=>by
  obtain⟨id,cs,k1,k2⟩:=yr k hk;exact h1.place id _ _ k2 (eI k id k1 hk).2
 have a2r:∀ b∈fa,∀ k,k<sk.sh.length->jw G m k≠b:=λ b hb k hk e=>by
  obtain⟨id,cs,k1,k2⟩:=yr k hk;exact (hF b hb).2.2.2.1 id _ k2 (by rw[<-e];exact (eI k id k1 hk).2)
 have hXo:∀ b,BX sk.sh.length (jw G m) fa b->(c.w0.heap.size<=b\/c.X b)/\¬ G.S b:=λ b hb=>by
  rcases hb with hb|⟨k,hk,rfl⟩
  .exact⟨(hF b hb).1,(hF b hb).2.1⟩
  .exact⟨(PG k hk).1,(PG k hk).2.1⟩
 have qU:∀ b,BX sk.sh.length (jw G m) fa b->¬ St c G.S b:=λ b hb q=>by
  obtain⟨q1,q2⟩:=hXo b hb;rcases q with q|⟨q,q3,_⟩
  .exact q2 q
  .exact q1.elim (λ q=>by omega) q3
 have jI:∀ id o b,id∉m.map (·.2)->s1.ag id=some o->dx (G.η id)=some b->¬ BX sk.sh.length (jw G m) fa b:=λ id o b aO ho hb q=>by
  rcases q with q|⟨k,hk,rfl⟩
  .exact (hF b q).2.2.2.1 id _ ho hb
  .obtain⟨di,cs,k1,k2⟩:=yr k hk;have:=h1.apart id di _ _ _ ho k2 hb (eI k di k1 hk).2;subst this;exact aO (wi k1)
 have a2l:∀ id τ xs b,s1.ag id=some (.aC τ xs)->b∈G.φ id->¬ BX sk.sh.length (jw G m) fa b:=λ id τ xs b ht hb q=>by
  rcases q with q|⟨k,hk,rfl⟩
  .exact (hF b q).2.2.2.2 id τ xs ht hb
  .obtain⟨di,cs,k1,k2⟩:=yr k hk;exact (h1.aN.pl id τ xs _ ht hb).2.2.2 di _ k2 (eI k di k1 hk).2
 have wa:∀ id o b,Xs sk.sh s1.ag (m.map (·.2)) id=some o->dx (G.η id)=some b->¬ BX sk.sh.length (jw G m) fa b:=λ id o b ho hb=>jI id o b (HG ho).2 (HG ho).1 hb;have a1c:Qg c.P f sk.sh res eD w G.S (jw G m) (cl.args.toList.map a.eval) fa:=by
  cases OH:Gv sk.sh with
  | false =>
   have gZ:∀ id o,Xs sk.sh s1.ag (m.map (·.2)) id=some o->∃ cs,o = .box cs:=λ id o q=>by
    unfold Xs at q;rw[OH] at q;exact (rI q).2.2
   have dE:=ph hE h1 (mf:=m) (λ _ q=>q) (λ id o ho=>(HG ho).1) (λ τ v x y q1 q2=>wC (λ id e τ xs q=>by obtain⟨cs,e⟩:=gZ _ _ q;cases e) (λ id τ xs q=>by obtain⟨cs,e⟩:=gZ _ _ q;cases e) q1 q2) qU wa (lk0:=s.ag) has (aM.iL (aX h1) cl.args.toList) (aM.iL (aX h) cl.args.toList) QQ;exact jf w G.S (jw G m) _ fa h1.Vj WT VW (λ b hb=>⟨(hF b hb).2.2.1,(hF b hb).2.1,a2r b hb⟩) (λ k hk=>⟨(PG k hk).2.2,(PG k hk).2.1⟩) J3 dE
  | true =>
   have dE:=ph hE h1 (mf:=m) (S1:=SX G s1.ag) (λ _ q => .inl q) (λ id o ho=>(HG ho).1) (λ τ v x y q1 q2=>uq h1.aN h1.aH (λ id o ho=>(HG ho).1) q1 q2) qU wa (lk0:=s.ag) has (aM.iL (aX h1) cl.args.toList) (aM.iL (aX h) cl.args.toList) QQ;refine jf.more OH h1.Tx (λ _ q => .inl q) (λ b hb q=>?_) WT VW (λ b hb=>⟨(hF b hb).2.2.1,(hF b hb).2.1,a2r b hb⟩) (λ k hk=>⟨(PG k hk).2.2,(PG k hk).2.1⟩) J3 dE;rcases q with q|⟨id,e,τ,xs,q1,q2⟩|⟨id,τ,xs,q1,q2⟩
   .exact (hXo b hb).2 q
   .refine jI id _ b (λ aO=>?_) q1 q2 hb;obtain⟨_,cs,_,_,q3⟩:=V0 id aO;rw[q1] at q3;cases q3
   .exact a2l id τ xs b q1 q2 hb
 unfold Oper.wp;rw[fM bh e9 rfl oi];simp only[Oper.upon];refine Calls.mono (show Qg c.P f sk.sh res eD w G.S (jw G m) (cl.args.toList.map a.eval) fa from a1c) ?_;rintro e w' ⟨x,S',fp,QI,rfl,hk,Uq,WU,hS3,hO,hB',cX,lg,hBS⟩;obtain⟨tJ,xs,e1,e2,e3,e4,e5⟩:=BN nM hB';let Bz:Nat->Option aw:=λ i=>match ag bs i with
  | some (.box cs)=>some (.box (List.replicate cs.length .any))
  | _=>s1.ag i
 have QR:∀ id,id∈m.map (·.2)->∃ (k:Nat) (dt:List AV),k<sk.sh.length/\ag m k=some id/\ag bs id=some (.box dt)/\∃ (l:List Value) (t:TypeId),w'.heap[jw G m k]?=some (.cells l.toArray t (0,0))/\l.length=dt.length:=λ id aO=>by
  obtain⟨k,cs,k1,k2,k3⟩:=V0 id aO;obtain⟨di,dt,l,t,g1,g2,g3,g4⟩:=e4 k (Nat.zero_le _) (by simpa using k1);rw[k2] at g1;simp only[Option.some.injEq] at g1;subst g1;have bP:∃ o,ag bs id=some o:=by
   cases hl:ag bs id with
   | some o=>exact⟨o,rfl⟩
   | none =>
    exfalso;have:∀ {l:List (Nat×aw)} {k:Nat},ag l k=none->∀ p∈l,p.1≠k:=by
     intro l;induction l with
     | nil=>intro k _ p hp;cases hp
     | cons q l ih =>
      intro k hq p hp;obtain⟨j,o⟩:=q;rw[vx] at hq;split at hq
      .cases hq
      .rename_i dm;rcases a7J.1 hp with rfl|hp
       .exact λ e=>dm e.symm
       .exact ih hq p hp
    exact this hl _ g2 rfl
  obtain⟨o,ho⟩:=bP;obtain⟨j,R9,l2,t2,_,j2,j3,j4,j5,j6,_⟩:=e5 _ (eX ho);have:j=k:=Cn W3 j3 k2;subst this;simp only at j4;subst j4;exact⟨j,R9,k1,k2,ho,l2,t2,j5,j6⟩
 have a2p:∀ id,id∉m.map (·.2)->ag bs id=none:=λ id aO=>vy λ p hp e=>by
  obtain⟨j,_,_,_,_,_,j3,_⟩:=e5 p hp;exact aO (e ▸ wi j3)
 have PO:∀ id,id∉m.map (·.2)->Bz id=s1.ag id:=λ id aO=>by simp only[Bz,a2p id aO]
 have Y5:∀ id k dt,ag m k=some id->ag bs id=some (.box dt)->Bz id=some (.box (List.replicate dt.length .any)):=λ id k dt _ hb=>by simp only[Bz,hb]
 have hA:bf c ⟨S',G.η,G.φ⟩ s1.sl s1.aA.length Bz a w':=by
  refine Inv.a0L h1 (X:=BX sk.sh.length (jw G m) fa) hk (λ b hb=>(hXo b hb).1) (λ b hb=>(hXo b hb).2) Uq WU hS3 (λ id=>?_) a2l;by_cases aO:id∈m.map (·.2)
  .obtain⟨k,dt,q1,q2,q3,l,t,q4,q5⟩:=QR id aO;obtain⟨_,cs,_,_,q6⟩:=V0 id aO;obtain⟨g1,g2⟩:=eI k id q2 q1;refine .inr ⟨cs,_,q6,Y5 id k dt q2 q3,λ b hb=>?_,jw G m k,l,t,g1,q4,λ G' lk'=>?_⟩
   .rw[g2] at hb;simp only[a7v] at hb;subst hb;exact hBS k q1
   .have:∀ (l:List Value),aM (C1 c G' lk' w') (List.replicate l.length .any) l:=λ l=>by
     induction l with
     | nil=>exact trivial
     | cons x l ih=>exact⟨af,ih⟩
    rw[<-q5];exact this l
  .exact .inl ⟨PO id aO,λ o b ho hb=>jI id o b aO ho hb⟩
 have Za:∀ p∈bc (bF d) res++ts,p.1∉m.map (·.2):=λ p hp aO=>by
  obtain⟨_,cs,_,_,q⟩:=V0 p.1 aO;rw[qh p hp] at q;cases q
 rw[a7Q] at cX;obtain⟨ZJ,ZK,ZL⟩:=cX;rw[a8R,a7Q] at nL;obtain⟨dd1,dd2,dd3⟩:=nL;have hFr:Fr c ⟨S',G.η,G.φ⟩ Bz w' (fp++QI):=λ b hb=>by
  obtain⟨q1,q2,q3⟩:=lg b hb;have qg:∀ i o,Bz i=some o->dx (G.η i)≠some b:=λ i o cd e=>by
   by_cases aO:i∈m.map (·.2)
   .obtain⟨k,dt,g1,g2,_⟩:=QR i aO;rw[(eI k i g2 g1).2] at e;simp only[a7v] at e;exact q3 k g1 e
   .rw[PO i aO] at cd;rcases q1 with q1|⟨q1,_⟩
    .exact (hF b q1).2.2.2.1 i o cd e
    .have:=(h1.place i o b cd e).2.2;omega
  have hbt:∀ j τ zs,Bz j=some (.aC τ zs)->b∉G.φ j:=λ j τ zs hj lb=>by
   by_cases aO:j∈m.map (·.2)
   .obtain⟨k,dt,g1,g2,g3,_⟩:=QR j aO;rw[Y5 j k dt g2 g3] at hj;cases hj
   .rw[PO j aO] at hj;rcases q1 with q1|⟨q1,_⟩
    .exact (hF b q1).2.2.2.2 j τ zs hj lb
    .have:=(h1.aN.pl j τ zs b hj lb).2.2.1;omega
  rcases q1 with q1|⟨q1,q1'⟩
  .exact⟨(hF b q1).1,q2,a7F (hF b q1).2.2.1 hk.size,qg,hbt⟩
  .exact⟨.inl (a8M h1.aK.size q1),q2,q1',qg,hbt⟩
 have Iz:∀ j,bF d<=j->c.R j=none:=λ j hj=>by
  cases hr:c.R j with
  | none=>rfl
  | some v=>have:=h.fE j v hr;unfold bF at hj;omega
 obtain⟨ys,qf,M5⟩:=Fo (c:=c) (id:=bF d) hO;obtain⟨G1,I8,k1,k2,k3,k4,k5⟩:=hA.FP (id:=bF d) qf ZJ (λ b hb=>hFr b (by simp[hb])) (λ p hp=>by
  rw[PO p.1 (Za p (by simp[hp]))];exact qh p (by simp[hp])) dd1 Iz
 rw[e1] at dd2 dd3 qh Za;obtain⟨G2,lk2,p1,p2,p3,p4,_⟩:=k2.Cd (us:=tJ) (cs:=xs) (fp:=QI) (id:=bF d+60) e3 e2 ZK (k5 QI (λ b hb=>hFr b (by simp[hb])) λ b hb cv=>ZL b cv b hb rfl) (λ p hp=>by
  rw[k1 p.1];unfold fS;rw[vy (l:=bc (bF d) res) λ q hq e=>dd3 q.1 (List.mem_map.2 ⟨q,hq,rfl⟩) p.1 (List.mem_map.2 ⟨p,hp,rfl⟩) e];simp only;rw[PO p.1 (Za p (by simp[hp]))];exact qh p (by simp[hp])) dd2 (λ j hj=>Iz j (by omega))
 have a5Z:VR c G2 lk2 w' (iM (bF d) res) x:=M5 G2 lk2 (k4.imp λ u y _ hy=>hy.ext p3);have xh:=bf.put (d:=some d) p2 a5Z;have a2s:∀ i,ah.ag { aA:=s1.aA.set d (iM (bF d) res),aH:=bs++(bc (bF d) res++ts)++fD (m.map (·.2)) s1.aH } i=fS bs (fS (bc (bF d) res) (fS ts (λ i=>if i∈m.map (·.2) then none else s1.ag i))) i:=λ i=>by
  show ag (bs++(bc (bF d) res++ts)++fD (m.map (·.2)) s1.aH) i=_;rw[a8c,oq,show ag (bc (bF d) res++ts++fD (m.map (·.2)) s1.aH)=fS (bc (bF d) res) (fS ts (λ i=>if i∈m.map (·.2) then none else s1.ag i)) from funext λ j=>by
   rw[a8c,oq,show ag (ts++fD (m.map (·.2)) s1.aH)=fS ts (λ i=>if i∈m.map (·.2) then none else s1.ag i) from funext λ j=>by
    rw[oq,show ag (fD (m.map (·.2)) s1.aH)=(λ i=>if i∈m.map (·.2) then none else s1.ag i) from funext λ j=>BA _ _ j]]]
 generalize bU:({ aA:=s1.aA.set d (iM (bF d) res),aH:=bs++(bc (bF d) res++ts)++fD (m.map (·.2)) s1.aH }:ah)=s2 at *
 have a5Q:∀ i,lk2 i=fS ts (fS (bc (bF d) res) Bz) i:=λ i=>by
  rw[p1 i,e1];unfold fS;rw[k1 i];rfl
 have PR:∀ i,i∉m.map (·.2)->s2.ag i=lk2 i:=λ i aO=>by
  rw[a2s i,a5Q i];unfold fS;rw[a2p i aO,PO i aO];simp only[if_neg aO];cases hV:ag (bc (bF d) res) i with
  | none=>rfl
  | some o =>
   rw[vy (l:=ts) λ q hq e=>dd3 i (a7B.2 ⟨(i,o),eX hV,rfl⟩) q.1 (a7B.2 ⟨q,by rw[<-e1];exact hq,rfl⟩) e.symm]
 have ff:∀ i,i∈m.map (·.2)->∃ k dt,k<sk.sh.length/\ag m k=some i/\ag bs i=some (.box dt)/\lk2 i=some (.box (List.replicate dt.length .any))/\s2.ag i=some (.box dt)/\G2.η i = .pointer (some ⟨jw G m k,0,none⟩):=λ i aO=>by
  obtain⟨k,dt,q1,q2,q3,_⟩:=QR i aO;have YH:=Y5 i k dt q2 q3;obtain⟨r1,r2,_⟩:=(k3.trans p3).Xk i _ YH;refine⟨k,dt,q1,q2,q3,r1,?_,by rw[r2];exact (eI k i q2 q1).1⟩;rw[a2s i];unfold fS;rw[q3]
 have fh:∀ i,eg (lk2 i) (s2.ag i):=λ i=>by
  by_cases aO:i∈m.map (·.2)
  .obtain⟨k,dt,_,_,_,q4,q5,_⟩:=ff i aO;rw[q4,q5];exact⟨λ _=>rfl,(λ e τ xs q=>by cases q),(λ q=>by cases q),λ q=>by cases q⟩
  .rw[PR i aO];exact eg.refl _
 have a3y:=bf.a6d (lk2:=s2.ag) xh (λ i=>by
  by_cases aO:i∈m.map (·.2)
  .obtain⟨k,dt,q1,q2,q3,q4,q5,q6⟩:=ff i aO;obtain⟨j,R9,l,t,_,j2,j3,j4,j5,_,j7⟩:=e5 _ (eX q3);have:j=k:=Cn W3 j3 q2;subst this;simp only[aw.box.injEq] at j4;subst j4;refine .inr ⟨_,_,q4,q5,jw G m j,l,t,q6,j5,?_⟩;refine j7 G2 s2.ag (λ b hb=>by rw[p3.S,k3.S];exact hb) (λ j' id GY=>?_) (p4.imp λ u y _ hy=>hy.mono (λ i _=>⟨fh i,rfl⟩) (λ _ q=>q) (λ _ _=>rfl));obtain⟨k',a7f,g1,g2,_,_,g5,g6⟩:=ff id (wi GY);have:j'=k':=Cn W3 GY g2;subst this;exact⟨g6,by rw[g5];rfl⟩
  .exact .inl (PR i aO))
 refine⟨G2,?_⟩;unfold Inv;rw[hd,<-bU,show ah.sl { aA:=s1.aA.set d (iM (bF d) res),aH:=bs++(bc (bF d) res++ts)++fD (m.map (·.2)) s1.aH }=iz s1.aA.length s1.sl (some d) (iM (bF d) res) from nz s1.aA d _ _,
  show ({ aA:=s1.aA.set d (iM (bF d) res),aH:=bs++(bc (bF d) res++ts)++fD (m.map (·.2)) s1.aH }:ah).aA.length=s1.aA.length from by simp,bU]
 exact a3y
end
theorem wY(id:Nat)(u:AV):∀ l:List AV,AV.MI id u l=l.map (AV.CZ id u)
 | []=>rfl
 | v::r=>congrArg _ (wY id u r)
section
variable {c:Ctx} {G:Gh} {s:ah} {a:Act} {w w':World}
theorem a0a{lk:Nat->Option aw}{id:Nat}{e:TypeId}{τ:Ty}{xs:List τ.den}(ho:OR c G lk w id (.row e τ xs)){S':Nat->Prop}(hS:∀ b,G.S b->S' b)(hb:∀ b,dx (G.η id)=some b->S' b) :
  Rd w S' (Ty.aI (.slice τ) xs) [G.η id]:=by
 obtain⟨l,h1,h2,h3⟩:=ho;exact PW h1 h2 h3 hS hb
theorem C1.CZ{lk lk':Nat->Option aw}{id:Nat}{e:TypeId}{τ:Ty}{xs:List τ.den}(aO:lk id=some (.row e τ xs))(ho:OR c G lk w id (.row e τ xs)){S':Nat->Prop}(hS:∀ b,G.S b->S' b)(hb:∀ b,dx (G.η id)=some b->S' b)
  (bP:∀ j,j≠id->eg (lk j) (lk' j)) {v:AV} {x:Value} (h:C1 c G lk w v x):C1 c ⟨S',G.η,G.φ⟩ lk' w (AV.CZ id (.aQ ⟨.slice τ,xs⟩) v) x:=by
 have aK:(∀ j,v.refs j=true->j≠id)->C1 c ⟨S',G.η,G.φ⟩ lk' w v x:=λ hr=>h.mono (λ j hj=>⟨bP j (hr j hj),rfl⟩) hS (λ _ _=>rfl);cases v with
 | row i =>
  simp only[AV.CZ];split
  .rename_i hi;have hi:=a7w hi;subst hi;refine⟨rfl,?_⟩;rw[h.1];exact a0a ho hS hb
  .rename_i hi;refine aK λ j hj=>?_;simp only[AV.refs] at hj;have:=a7w hj;intro e;subst this e;simp at hi
 | dS i k off =>
  simp only[AV.CZ];split
  .trivial
  .rename_i hi;refine aK λ j hj=>?_;simp only[AV.refs] at hj;have:=a7w hj;intro e;subst this e;simp at hi
 | ptr i off =>
  refine aK λ j hj=>?_;simp only[AV.refs] at hj;have:=a7w hj;intro e;subst this e;obtain⟨b,_,_,h3⟩:=h;rw[aO] at h3;cases h3
 | agg cs=>exact h.elim
 | fZ cs=>exact h.elim
 | cK f cs=>exact h.elim
 | gp v=>exact aK λ j hj=>by cases hj
 | any=>trivial
 | dN=>exact h
 | aQ u=>exact aK λ j hj=>by cases hj
 | nil=>exact aK λ j hj=>by cases hj
 | cP u=>exact aK λ j hj=>by cases hj
 | fn f=>exact aK λ j hj=>by cases hj
 | mp i =>
  refine aK λ j hj=>?_;simp only[AV.refs] at hj;have:=a7w hj;intro e;subst this e;have h3:=h.2.1;rw[aO] at h3;cases h3
 | aC i =>
  refine aK λ j hj=>?_;simp only[AV.refs] at hj;have:=a7w hj;intro e;subst this e;have h1:=h.1;rw[aO] at h1;cases h1
 | sub i k o z =>
  refine aK λ j hj=>?_;simp only[AV.refs] at hj;have:=a7w hj;intro e;subst this e;have h1:=h.1;rw[aO] at h1;cases h1
 | ed i k o z =>
  refine aK λ j hj=>?_;simp only[AV.refs] at hj;have:=a7w hj;intro e;subst this e;have h1:=h.1;rw[aO] at h1;cases h1
theorem wX(id:Nat)(u:AV):∀ l:List AV,AV.MH id u l=l.map (AV.Ad id u)
 | []=>rfl
 | v::r=>congrArg _ (wX id u r)
theorem C1.Ad{lk lk':Nat->Option aw}{id:Nat}{τ:Ty}{xs:List τ.den}(aO:lk id=some (.aC τ xs))(hT:gL w (G.η id) τ xs (G.φ id)){S':Nat->Prop}(hS:∀ b,G.S b->S' b)(hb:∀ b∈G.φ id,S' b)
  (bP:∀ j,j≠id->eg (lk j) (lk' j)) {v:AV} {x:Value} (h:C1 c G lk w v x):C1 c ⟨S',G.η,G.φ⟩ lk' w (AV.Ad id (.aQ ⟨.slice τ,xs⟩) v) x:=by
 have aK:(∀ j,v.refs j=true->j≠id)->C1 c ⟨S',G.η,G.φ⟩ lk' w v x:=λ hr=>h.mono (λ j hj=>⟨bP j (hr j hj),rfl⟩) hS (λ _ _=>rfl);have other:∀ i:Nat,(Nat.beq i id=false\/cU (lk i)=false)->(∀ j,v.refs j=true->Nat.beq i j=true)->C1 c ⟨S',G.η,G.φ⟩ lk' w v x:=λ i hi hr=>aK λ j hj e=>by
  have q:=a7w (hr j hj);subst q;subst e;rcases hi with hi|hi
  .simp at hi
  .rw[aO] at hi;cases hi
 cases v with
 | aC i =>
  simp only[AV.Ad];split
  .rename_i hi;have hi:=a7w hi;subst hi;obtain⟨_,l,h2,_⟩:=h;exact⟨rfl,hT.rd h2 hb⟩
  .rename_i hi;exact other i (.inl hi) λ j hj=>hj
 | sub i k o z =>
  simp only[AV.Ad];split
  .trivial
  .rename_i hi;exact other i (.inl hi) λ j hj=>hj
 | ed i k o z =>
  simp only[AV.Ad];split
  .trivial
  .rename_i hi;exact other i (.inl hi) λ j hj=>hj
 | row i=>exact other i (.inr (oQ h.2.1)) λ j hj=>hj
 | dS i k off =>
  refine other i (.inr ?_) λ j hj=>hj;obtain⟨b,n,cap,e,aT,cF,_,h3,_⟩:=h;rw[h3];rfl
 | ptr i off =>
  refine other i (.inr ?_) λ j hj=>hj;obtain⟨b,_,_,h3⟩:=h;match hl:lk i,h3 with
  | some (.box _),_=>rfl
 | mp i=>exact other i (.inr (DK h.2.1)) λ j hj=>hj
 | agg cs=>exact h.elim
 | fZ cs=>exact h.elim
 | cK f cs=>exact h.elim
 | gp v=>exact aK λ j hj=>by cases hj
 | any=>trivial
 | dN=>exact h
 | aQ u=>exact aK λ j hj=>by cases hj
 | nil=>exact aK λ j hj=>by cases hj
 | cP u=>exact aK λ j hj=>by cases hj
 | fn f=>exact aK λ j hj=>by cases hj
structure Fx(F:AV->AV):Prop where
 aQ:∀ v,F (.aQ v) = .aQ v
 agg:∀ cs,F (.agg cs) = .agg (cs.map F)
 fZ:∀ cs,F (.fZ cs) = .fZ (cs.map F)
 cK:∀ f cs,F (.cK f cs) = .cK f (cs.map F)
 any:F .any = .any
 aC:∀ i,(∃ u,F (.aC i) = .aQ u)\/F (.aC i) = .aC i
 cP:∀ v,F (.cP v) = .cP v
section
variable {F:AV->AV} {G':Gh} {lk lk':Nat->Option aw} (hF:Fx F) (hC:∀ v x,C1 c G lk w v x->C1 c G' lk' w (F v) x) (hS:∀ b,G.S b->G'.S b)
include hF hC hS
theorem CR.fx{v:AV}{x:Value}(h:CR c G lk w v x):CR c G' lk' w (F v) x:=by
 rcases h.inv with ⟨u,rfl,h1⟩|⟨cs,l,rfl,rfl,h1⟩|h1
 .rw[hF.aQ];exact du.mono h1 hS (λ _ _=>rfl)
 .rw[hF.agg];exact⟨l,rfl,aM.dF _ (h1.imp λ u y _ hy=>hC u y hy)⟩
 .exact (hC _ _ h1).TD
theorem VR.fx{v:AV}{x:Value}(h:VR c G lk w v x):VR c G' lk' w (F v) x:=by
 have key:C1 c G lk w v x->VR c G' lk' w (F v) x:=λ q=>(hC v x q).eQ;cases v with
 | aQ u=>rw[hF.aQ];exact du.mono h hS (λ _ _=>rfl)
 | agg cs =>
  obtain⟨l,rfl,h2⟩:=h;rw[hF.agg];exact⟨l,rfl,aM.dF _ (h2.imp λ u y _ hy=>hC u y hy)⟩
 | fZ vs =>
  obtain⟨l,rfl,h2⟩:=h;rw[hF.fZ];refine⟨l,rfl,aM.dF _ (h2.imp λ u y _ hy=>?_)⟩;cases u with
  | any=>rw[hF.any];trivial
  | aQ v=>rw[hF.aQ];exact du.mono hy hS (λ _ _=>rfl)
  | aC i =>
   have q:=hC (.aC i) y hy;rcases hF.aC i with ⟨u,e⟩|e<;>rw[e] at q ⊢
   .exact q.eQ
   .exact q
  | agg cs =>
   obtain⟨l,rfl,h2⟩:=hy;rw[hF.agg];exact⟨l,rfl,aM.dF _ (h2.imp λ u y _ hy=>hC u y hy)⟩
  | cP v =>
   have q:=hC (.cP v) y hy;rw[hF.cP] at q ⊢;exact q
  | _=>exact hy.elim
 | cK f cs =>
  obtain⟨l,rfl,h2⟩:=h;rw[hF.cK];exact⟨l,rfl,aM.dF _ (h2.imp λ u y _ hy=>CR.fx hF hC hS hy)⟩
 | any=>rw[hF.any];trivial
 | _=>exact key h
end
theorem a0Z(id:Nat)(u:TV):Fx (AV.CZ id (.aQ u)):=⟨λ _=>rfl,λ cs=>by rw[AV.CZ,wY],λ cs=>by rw[AV.CZ,wY],λ f cs=>by rw[AV.CZ,wY],rfl,λ i => .inr rfl,λ _=>rfl⟩
theorem a0Y(id:Nat)(u:TV):Fx (AV.Ad id (.aQ u)):=⟨λ _=>rfl,λ cs=>by rw[AV.Ad,wX],λ cs=>by rw[AV.Ad,wX],λ f cs=>by rw[AV.Ad,wX],rfl,λ i=>by
 simp only[AV.Ad];split
 .exact .inl ⟨u,rfl⟩
 .exact .inr rfl,λ _=>rfl⟩
def aw.eo(F:AV->AV):aw->aw
 | .box cs => .box (cs.map F)
 | o=>o
theorem Inv.fix(h:Inv c G s a w)(id:Nat)(F:AV->AV)(hF:Fx F)(B:Nat->Prop)(hB:∀ b,B b->(c.w0.heap.size<=b\/c.X b)/\b<w.heap.size/\(∀ i o,i≠id->s.ag i=some o->dx (G.η i)≠some b)/\∀ i τ xs,i≠id->s.ag i=some (.aC τ xs)->b∉G.φ i)
  (hC:∀ lk',(∀ j,j≠id->eg (s.ag j) (lk' j))->∀ v x,C1 c G s.ag w v x->C1 c ⟨λ b=>G.S b\/B b,G.η,G.φ⟩ lk' w (F v) x) :
  Inv c ⟨λ b=>G.S b\/B b,G.η,G.φ⟩ { aA:=s.aA.map F,aH:=(bD id s.aH).map λ p=>(p.1,p.2.eo F) } a w:=by
 have hS:∀ b,G.S b->G.S b\/B b:=λ b hb => .inl hb;have bP:∀ i,ah.ag { aA:=s.aA.map F,aH:=(bD id s.aH).map λ p=>(p.1,p.2.eo F) } i=(if i=id then none else s.ag i).map (aw.eo F):=by
  intro i;show ag ((bD id s.aH).map _) i=_;rw[Cq,dU];rfl
 have fh:∀ j,j≠id->eg (s.ag j) (ah.ag { aA:=s.aA.map F,aH:=(bD id s.aH).map λ p=>(p.1,p.2.eo F) } j):=by
  intro j hj;rw[bP,a7z hj];refine⟨λ hh=>?_,λ e τ xs hh=>⟨e,xs,by rw[hh];rfl,a7P _⟩,λ hh=>?_,λ hh=>?_⟩
  .match hq:s.ag j,hh with
   | some (.box cs),_=>rfl
  .match hq:s.ag j,hh with
   | some (.aC τ xs),_=>rfl
  .match hq:s.ag j,hh with
   | some (.map m),_=>rfl
 have hC:=hC _ fh;have hinv:∀ i o,ah.ag { aA:=s.aA.map F,aH:=(bD id s.aH).map λ p=>(p.1,p.2.eo F) } i=some o->i≠id/\∃ o',s.ag i=some o'/\o=o'.eo F:=λ i o cd=>by
  rw[bP] at cd;simp only[a8f] at cd;obtain⟨o',cd,rfl⟩:=cd;by_cases hi:i=id
  .simp[hi] at cd
  .rw[a7z hi] at cd;exact⟨hi,o',cd,rfl⟩
 exact {
  defers:=h.defers
  size:=by rw[h.size];simp
  aK:=h.aK
  iY:=h.iY
  dZ:=λ b hbl hx=>⟨λ hh=>by
   rcases hh with hh|hh
   .exact (h.dZ b hbl hx).1 hh
   .exact (hB b hh).1.elim (λ q=>by omega) (λ q=>absurd q hx),λ hh => .inl ((h.dZ b hbl hx).2 hh)⟩
  sX:=λ b hh => .inl (h.sX b hh)
  dy:=λ b hh=>by
   rcases hh with hh|hh
   .exact h.dy b hh
   .exact (hB b hh).2.1
  aA:=λ i=>by
   have he:ah.sl { aA:=s.aA.map F,aH:=(bD id s.aH).map λ p=>(p.1,p.2.eo F) } i=F (s.sl i):=by
    simp only[ah.sl,a7G,a8T];cases s.aA[i]? with
    | none=>exact hF.any.symm
    | some v=>rfl
   rw[he];exact VR.fx hF hC hS (h.aA i)
  aH:=λ i o cd=>by
   obtain⟨hi,o',dR,rfl⟩:=hinv i o cd;have cH:=h.aH i o' dR;cases o' with
   | box cs =>
    obtain⟨b,l,t,k1,k2,k3⟩:=cH;exact⟨b,l,t,k1,k2,aM.dF _ (k3.imp λ u y _ hy=>hC u y hy)⟩
   | row e2 iP kQ =>
    obtain⟨l,k1,k2,k3⟩:=cH;exact⟨l,k1,cZ.aK hS (λ _ _=>rfl) _ k2,k3⟩
   | aC iP kQ=>trivial
   | map m=>exact cH
  place:=λ i o b cd gv=>by
   obtain⟨hi,o',dR,rfl⟩:=hinv i o cd;obtain⟨q1,q2,q3⟩:=h.place i o' b dR gv;exact⟨q1,λ hs=>hs.elim q2 λ hs=>(hB b hs).2.2.1 i o' hi dR gv,q3⟩
  apart:=λ i j o o2 b cd E0 qg lb=>by
   obtain⟨_,o',dR,rfl⟩:=hinv i o cd;obtain⟨_,o2',a5N,rfl⟩:=hinv j o2 E0;exact h.apart i j o' o2' b dR a5N qg lb
  aN:=by
   have hold:∀ j iP kQ,ah.ag { aA:=s.aA.map F,aH:=(bD id s.aH).map λ p=>(p.1,p.2.eo F) } j=some (.aC iP kQ)->j≠id/\s.ag j=some (.aC iP kQ):=λ j iP kQ k=>by
    obtain⟨hj,o',E0,e⟩:=hinv j _ k;refine⟨hj,?_⟩;match o',e with
    | .aC ..,e=>rw[E0,e];rfl
    | .box _,e=>cases e
    | .row ..,e=>cases e
    | .map _,e=>cases e
   exact {
    tr:=λ j iP kQ k=>h.aN.tr j iP kQ (hold j iP kQ k).2
    nd:=λ j iP kQ k=>h.aN.nd j iP kQ (hold j iP kQ k).2
    pl:=λ j iP kQ b k cv=>by
     obtain⟨hj,k⟩:=hold j iP kQ k;obtain⟨q1,q2,q3,q4⟩:=h.aN.pl j iP kQ b k cv;refine⟨q1,λ hs=>hs.elim q2 λ hs=>(hB b hs).2.2.2 j iP kQ hj k cv,q3,λ i o cd=>?_⟩;obtain⟨_,o',dR,rfl⟩:=hinv i o cd;exact q4 i o' dR
    ap:=λ j j' iP a3b kQ a2Z b k k'=>h.aN.ap j j' iP a3b kQ a2Z b (hold j iP kQ k).2 (hold j' a3b a2Z k').2 }
  root:=λ i v hr ht=>h.root i v hr (by
   match hl:ah.ag { aA:=s.aA.map F,aH:=(bD id s.aH).map λ p=>(p.1,p.2.eo F) } i,ht with
   | some (.aC ..),_ =>
    obtain⟨_,o',cd,e⟩:=hinv i _ hl;match o',e with
    | .aC ..,e=>rw[cd];rfl
    | .box _,e=>cases e
    | .row ..,e=>cases e
    | .map _,e=>cases e)
  fE:=h.fE
  dq:=λ i v hr ht=>h.dq i v hr (by
   match hl:ah.ag { aA:=s.aA.map F,aH:=(bD id s.aH).map λ p=>(p.1,p.2.eo F) } i,ht with
   | some (.box _),_ =>
    obtain⟨_,o',cd,e⟩:=hinv i _ hl;match o',e with
    | .box _,e=>rw[cd];rfl
    | .aC ..,e=>cases e
    | .row ..,e=>cases e
    | .map _,e=>cases e)
  eF:=h.eF }
theorem WR(id:Nat)(u:AV)(o:aw):o.CZ id u=o.eo (AV.CZ id u):=by
 cases o<;>simp[aw.CZ,aw.eo,wY]
theorem WQ(id:Nat)(u:AV)(o:aw):o.Ad id u=o.eo (AV.Ad id u):=by
 cases o<;>simp[aw.Ad,aw.eo,wX]
theorem Inv.freeze(h:Inv c G s a w)(id:Nat):∃ G',Inv c G' (s.freeze id) a w:=by
 unfold ah.freeze;split
 .rename_i e τ xs aO;have ho:=h.aH id _ aO;rw[wY];simp only[WR];exact⟨_,h.fix id _ (a0Z id _) (λ b=>dx (G.η id)=some b) (λ b hb=>by
   obtain⟨q1,_,q3⟩:=h.place id _ b aO hb;exact⟨q1,q3,λ i o hi cd qg=>hi (h.apart i id o _ b cd aO qg hb),λ i τ xs _ k q=>(h.aN.pl i τ xs b k q).2.2.2 id _ aO hb⟩)
   λ lk' hs v x hv=>C1.CZ aO ho (λ _ hb => .inl hb) (λ _ hb => .inr hb) hs hv⟩
 .rename_i τ xs aO;rw[wX];simp only[WQ];exact⟨_,h.fix id _ (a0Y id _) (λ b=>b∈G.φ id) (λ b hb=>by
   obtain⟨q1,_,q3,q4⟩:=h.aN.pl id _ _ b aO hb;exact⟨q1,q3,λ i o _ cd=>q4 i o cd,λ i τ xs hi k q=>hi (h.aN.ap i id _ _ _ _ b k aO q hb)⟩)
   λ lk' hs v x hv=>C1.Ad aO (h.aN.tr id _ _ aO) (λ _ hb => .inl hb) (λ _ hb => .inr hb) hs hv⟩
 .exact⟨G,h⟩
theorem Inv.A3:∀ (l:List Nat) {G:Gh} {s:ah},Inv c G s a w->∃ G',Inv c G' (l.foldl ah.freeze s) a w
 | [],G,s,h=>⟨G,h⟩
 | i::r,G,s,h=>by
  obtain⟨G',h'⟩:=h.freeze i;exact Inv.A3 r h'
theorem Co{lk:Nat->Option aw}{v:AV}{x:Value}{K:Prop}(hv:VR c G lk w v x)(h:known v K):K:=by
 unfold known at h;split at h
 .rename_i n;obtain⟨_,h1,h2⟩:=hv;refine h ⟨?_,?_⟩
  .have:=h1;simp only[IntKind.min,IntKind.signed,IntKind.bits,a9o] at this;omega
  .have:=h2;simp only[IntKind.max,IntKind.signed,IntKind.bits,a9o] at this;omega
 .rename_i t xs;obtain⟨_,_,_,_,h1,_⟩:=iy hv;exact h h1
 .rename_i xs;obtain⟨s,_,h2,h3⟩:=hv;subst h2;exact h (by rw[a8q];exact h3)
 .exact h
theorem a3e{l:List Operand}{u v:AV}{ev:Operand->AV}(h:l.map ev=[u,v]){lk:Nat->Option aw}(cw:∀ x,VR c G lk w (ev x) (a.eval x)):∃ x y,l.map a.eval=[x,y]/\VR c G lk w u x/\VR c G lk w v y:=by
 have:=aM.iL cw l;rw[h] at this;match hl:l.map a.eval,this with
 | [x,y],hh=>exact⟨x,y,rfl,hh.1,hh.2.1⟩
theorem DJ(hE:bo c.P c.E)(h:Inv c G s a w){o:Oper}{T:TypeId}{m k x:Operand}(bh:o.op = .mapUpdate T m k x\/o.op = .insert T m k x){vc:Vc}{s':ah}(he:Cr c.E s o.dst T m k x=some (vc,s'))(dO:vc.ok){Q:Exit->Act->World->Prop} :
  o.wp c.P a w (λ a' w'=>∃ G',Inv c G' s' a' w') Q:=by
 unfold Cr at he;split at he
 .rename_i κ ε hT;split at he
  .rename_i id v hm hx;split at he
   .rename_i m' k' x' aO hku Q7;split at he
    .rename_i f n hmm;simp only[Option.some.injEq,Prod.mk.injEq] at he;obtain⟨rfl,rfl⟩:=he;have e1:=MV.aR hmm;subst e1;have e3:=TV.aR Q7;subst e3;have q1:=aX h m;rw[hm] at q1;have q2:=wB hku (aX h k);have q3:=aX h x;rw[hx] at q3;obtain⟨w',r1,r2⟩:=h.Cr hE hT aO q1 q2 q3 dO;unfold Oper.wp;have:(execOp a.eval o).run c.P w = .ok .skip w':=by
      rcases bh with bh|bh<;>simp only[execOp,bh,a7U,r1,a7N,a7S]
     rw[this];exact⟨G,Inv.put r2 trivial⟩
    .cases he
   .cases he
  .cases he
 .cases he
theorem Ud(hE:bo c.P c.E)(h:Inv c G s a w){o:Oper}{vc:Vc}{s':ah}(he:QF c.E s o=some (vc,s'))(dO:vc.ok){Q:Exit->Act->World->Prop} :
  o.wp c.P a w (λ a' w'=>∃ G',Inv c G' s' a' w') Q:=by
 unfold QF at he;split at he
 .rename_i bh;exact DJ hE h (.inl bh) he dO
 .rename_i bh;exact DJ hE h (.inr bh) he dO
 .rename_i T ad x bh;split at he
  .rename_i τ r hT;have hp:=aX h ad;have hx:=aX h x;have fin:∀ w' G1 (s1:ah),(Instr.storeAt T (a.eval ad) (a.eval x)).run c.P w = .ok () w'->Inv c G1 s1 a w'->s'=s1.put o.dst .any->o.wp c.P a w (λ a' w'=>∃ G',Inv c G' s' a' w') Q:=by
    intro w' G1 s1 hr hi hs;unfold Oper.wp;have:(execOp a.eval o).run c.P w = .ok .skip w':=by simp only[execOp,bh,Sem.run_bind,hr,Result.andThen_ok,Sem.run_pure]
    rw[this];refine⟨G1,?_⟩;rw[hs];exact Inv.put hi trivial
   split at he
   .rename_i id off cw;split at he
    .rename_i cs aO;split at he
     .rename_i new nM;split at he
      .rename_i dt xh;simp only[a7v,a7x] at he;obtain⟨rfl,rfl⟩:=he;rw[cw] at hp;obtain⟨w',k1,k2⟩:=h.store hE hT aO hp ⟨_,nM,hx⟩ xh;exact fin w' _ _ k1 k2 rfl
      .cases he
     .cases he
    .cases he
   .rename_i id i cw;split at he
    .rename_i e' aT xs aO;split at he
     .rename_i y ei hy;have ei:=a7Z ei;subst ei;simp only[a7v,a7x] at he;obtain⟨rfl,rfl⟩:=he;rw[cw] at hp;obtain⟨w',k1,k2⟩:=h.XB hE hT aO hp hx hy;exact fin w' _ _ k1 k2 rfl
     .cases he
    .cases he
   .cases he
  .cases he
 .rename_i cl bh;split at he
  .rename_i e9;split at he
   .rename_i d T T' hd MO;split at he
    .rename_i τ b e MN hT;have MN:=a7w MN;subst MN;split at he
     .rename_i id y dE;split at he
      .rename_i e' aT xs ys aO hy;split at he
       .rename_i cF xf jJ;have xf:=a7w xf;have e1:=TV.aR jJ;cases e1;subst xf;simp only[a7v,a7x] at he;obtain⟨rfl,rfl⟩:=he;obtain⟨x,z,m1,m2,m3⟩:=a3e (a:=a) (c:=c) (G:=G) (w:=w) dE (aX h);obtain⟨v',w',G',k1,k2⟩:=h.append hE hT (d:=d) aO m2 m3 hy dO o.type;have GQ:cl.argTypes = #[T,T]:=by rw[<-a8v (xs:=cl.argTypes),MO]
        have Bk:cl.args.map a.eval = #[x,z]:=by rw[<-a8v (xs:=cl.args.map a.eval),a9q,m1]
        unfold Oper.wp;have:(execOp a.eval o).run c.P w = .ok (.value v') w':=by
         simp[execOp,bh,resolve,e9,invoke,builtin,GQ,Bk,k1]
        rw[this];refine⟨G',?_⟩;rw[hd];exact k2
       .cases he
      .cases he
     .cases he
    .cases he
   .cases he
  .cases he
 .cases he
theorem UX(hE:bo c.P c.E)(h:Inv c G s a w){o0:Oper}{vc:Vc}{v:AV}{ob:Option aw}(he:Ro c.E s o0=some (vc,v,ob))(dO:vc.ok){Q:Exit->Act->World->Prop} :
  o0.wp c.P a w (uj c G s.sl s.aA.length s.ag o0.dst a w v ob) Q:=by
 unfold Ro at he;split at he;case h_2=>cases he
 case h_1 cl bh =>
 split at he;case h_2=>cases he
 case h_1 f e9 =>
 split at he;case h_2=>cases he
 case h_1 d hd =>
 split at he;case h_2=>cases he
 case h_1 Z9 has =>
 have key:∀ (T:Nat->Prop),(∀ x∈cl.args.toList.map a.eval,∀ q:Addr,x = .pointer (some q)->T q.block)->∀ pre o,c.E.NC f Z9=some (pre,o)->pre.ok->o0.wp c.P a w (λ a' w'=>∃ x S',a'=a.put o0.dst x/\bf c ⟨S',G.η,G.φ⟩ s.sl s.aA.length s.ag a w' /\
   (∀ b,G.S b->S' b)/\(∀ b,dx x=some b->w.heap.size<=b/\b<w'.heap.size/\¬ S' b)/\XS w' S' T x o) Q:=λ T hT pre o hc dO=>by
  obtain⟨oi,jf⟩:=hE.NC f Z9 pre o hc dO;unfold Oper.wp;rw[fM bh e9 rfl oi];simp only[Oper.upon];refine (jf w G.S T _ h.Vj hT (gh hE h (yE (λ _ _ h=>h)) (λ _ h=>h) (λ τ v x y h1 h2=>wC yF vC h1 h2) has (aM.iL (aX h) _))).mono ?_;rintro e w' ⟨x,S',rfl,hk,Uq,WU,hb,hx⟩;exact⟨x,S',rfl,bf.grow h hk Uq WU,λ b hb=>(Uq b (h.dy b hb)).2 hb,hb,hx⟩
 split at he;case h_4=>cases he
 case h_3 pre l hc =>
  split at he;case h_2=>cases he
  case h_1 bU =>
  simp only[a7v,a7x] at he;obtain⟨rfl,rfl,rfl⟩:=he;refine a8X ?_ (key (St c G.S) (λ x hx q hq=>?_) _ _ hc dO)
  .rintro a' w' ⟨x,S',rfl,hI,hS,hb,ys,rfl,Dc⟩;refine⟨_,S',rfl,hI,ys.toArray.toList,rfl,aM.dF _ (Dc.imp λ r y _ hy=>?_)⟩;obtain⟨bb,v⟩:=r;cases bb with
   | true =>
    obtain⟨b,o,cs,h1,h2,h3,h4⟩:=hy;exact⟨b,o,cs,h1,h2.elim .inl λ h2=>h2.imp (hS b) id,h3,h4⟩
   | false=>exact hy
  .obtain⟨y,hy,rfl⟩:=a7B.1 hx;have h1:=a8g.1 bU _ (a7B.2 ⟨y,hy,rfl⟩);have h2:=aX h y;generalize s.eval y=v at h1 h2;rw[hq] at h2;cases v with
   | cP u=>obtain⟨b,o,cs,e,h3,_⟩:=h2;cases e;exact h3
   | aQ u =>
    obtain⟨τ,z⟩:=u;cases τ with
    | int k=>obtain⟨e,_⟩:=h2;cases e
    | bool=>have e:[Value.pointer (some q)]=[.bool z]:=h2;cases e
    | str=>obtain⟨_,e,_⟩:=h2;cases e
    | slice t=>obtain⟨_,_,e,_⟩:=h2;cases e
    | st s=>obtain⟨_,e,_⟩:=h2;cases e
    | mv t=>cases z with
     | none=>obtain⟨_,_,_,e⟩:=h2;cases e
     | some z=>obtain⟨_,_,e,_⟩:=h2;cases e
    | ptr=>cases h1
   | _=>cases h1
 case h_1 pre cells hc =>
  simp only[a7v,a7x] at he;obtain⟨rfl,rfl,rfl⟩:=he;refine a8X ?_ (key (λ _=>True) (λ _ _ _ _=>trivial) _ _ hc dO);rintro a' w' ⟨x,S',rfl,hI,_,hb,b,l,t,rfl,hh,ij⟩;exact⟨_,S',rfl,hI,⟨d,hd,rfl⟩,⟨b,l,t,rfl,hh,aM.dF _ (ij.imp λ u y _ hy=>hy)⟩,hb⟩
 case h_2 pre e τ xs hc =>
  simp only[a7v,a7x] at he;obtain⟨rfl,rfl,rfl⟩:=he;refine a8X ?_ (key (λ _=>True) (λ _ _ _ _=>trivial) _ _ hc dO);rintro a' w' ⟨x,S',rfl,hI,_,hb,l,h1,h2,h3⟩;exact⟨_,S',rfl,hI,⟨d,hd,rfl⟩,⟨l,h1,h2,h3⟩,hb⟩
theorem HC(hE:bo c.P c.E)(h:Inv c G s a w){o:Oper}{K:ah->Prop}(hr:jg c.E o K s){Q:Exit->Act->World->Prop} :
  o.wp c.P a w (λ a' w'=>∃ G' s',Inv c G' s' a' w'/\K s') Q:=by
 unfold jg at hr;split at hr
 .exact hr.elim
 rename_i EX;obtain⟨G1,h1⟩:=h.A3 (jc c.E s o);generalize (jc c.E s o).foldl ah.freeze s=s1 at *
 simp only at hr;split at hr
 .rename_i vc s' he;exact a8X (λ a' w' ⟨G',hg⟩=>⟨G',s',hg,(Vc.iA hr).2⟩) (Vm hE h1 he (Vc.iA hr).1)
 split at hr
 .rename_i vc s' he;exact a8X (λ a' w' ⟨G',hg⟩=>⟨G',s',hg,(Vc.iA hr).2⟩) (T7 hE h1 he (Vc.iA hr).1)
 split at hr
 .rename_i vc s' he;exact a8X (λ a' w' ⟨G',hg⟩=>⟨G',s',hg,(Vc.iA hr).2⟩) (Ud hE h1 he (Vc.iA hr).1)
 .split at hr
  .rename_i vc s' he;exact a8X (λ a' w' ⟨G',hg⟩=>⟨G',s',hg,(Vc.iA hr).2⟩) (U2 hE h1 he (Vc.iA hr).1)
  split at hr
  .rename_i vc v ob he;refine a8X ?_ (UX hE h1 he (Vc.iA hr).1);intro a' w' hd;obtain⟨G',hl⟩:=Nr h1 EX hd;exact⟨G',_,hl,(Vc.iA hr).2⟩
  .split at hr
   .rename_i vc v ob hq;obtain⟨dO,hk⟩:=Vc.iA hr;refine a8X ?_ (Fq hE h1 (λ _ _ h=>h) (aX h1) hq dO);intro a' w' hd;obtain⟨G',hl⟩:=Nr h1 EX hd;refine⟨G',_,hl,?_⟩;split at hk
    .obtain⟨x,S',_,_,hx⟩:=hd;cases ob with
     | none=>exact Co hx hk
     | some ob =>
      obtain⟨hL,_⟩:=hx;cases ob with
      | box cs=>obtain⟨i,_,rfl⟩:=hL;exact hk
      | row e τ xs=>obtain⟨i,_,rfl⟩:=hL;exact hk
      | aC τ xs=>exact hL.elim
      | map m=>obtain⟨i,_,rfl⟩:=hL;exact hk
    .exact hk
   .exact hr.elim
theorem Um{t:Array Value}{i:Nat}{b:Bool}(h:t.getD i undef = .bool b):t[i]?=some (.bool b):=by
 rw[a8h] at h;cases hx:t[i]? with
 | none=>rw[hx] at h;simp[undef] at h
 | some v=>rw[hx] at h;simpa using h
theorem EV{ops:Array Oper}{g t:Nat}{b:Bool}(ht:sL ops g=some t)(hx:VR c G s.ag w (.aQ ⟨.bool,b⟩) (a.eval (.tmp t))):yielded ops a.tmps g=some b:=by
 have hb:[a.eval (.tmp t)]=[.bool b]:=hx;simp only[List.cons.injEq,and_true] at hb;have:=Um hb;unfold yielded;rw[show (ops[g]?).bind (·.dst)=some t from ht];simp[this]
theorem Ba{ops:Array Oper}{g t:Nat}(ht:sL ops g=some t)(hx:VR c G s.ag w .dN (a.eval (.tmp t))):yielded ops a.tmps g=none:=by
 have hb:a.eval (.tmp t)=undef:=hx;have hb:a.tmps.getD t undef=undef:=hb;unfold yielded;rw[show (ops[g]?).bind (·.dst)=some t from ht];rw[Array.getD_eq_getD_getElem?] at hb;cases hx:a.tmps[t]? with
 | none=>simp[hx]
 | some v =>
  rw[hx] at hb;have hv:v=undef:=hb;subst hv;simp[hx,undef]
theorem Inv.slot(h:Inv c G s a w)(t:Nat){b b':Bool}(he:s.eval (.tmp t) = .aQ ⟨.bool,b⟩)(hb:b=b'):Inv c G (s.put (some t) (.aQ ⟨.bool,b'⟩)) a w:=by
 have:s.put (some t) (.aQ ⟨.bool,b'⟩)=s\/(s.put (some t) (.aQ ⟨.bool,b'⟩)).sl=s.sl:=by
  right;rw[Wo];funext i;unfold iz;split
  .rename_i hi;obtain⟨h1,h2⟩:=hi;simp only[a7v] at h1;subst h1;rw[<-hb,<-he];rfl
  .rfl
 rcases this with e|e
 .rw[e];exact h
 .unfold Inv;rw[e,PT,J9];exact h
theorem x7(hE:bo c.P c.E){ops:Array Oper}{Q:ah->Prop}{o:Oper}{r:List Oper}{kn:List (Nat×Bool)}(h:Inv c G s a w)(hr:eB c.E ops (o::r) kn Q s) :
  if Region.wanted o (yielded ops a.tmps)=true then ∀ Q':Exit->Act->World->Prop,o.wp c.P a w (λ a' w'=>∃ G' s' mj,Inv c G' s' a' w'/\eB c.E ops r mj Q s') Q'
  else ∃ G' s' mj,Inv c G' s' (a.put o.dst undef) w/\eB c.E ops r mj Q s':=by
 have run:∀ (kn:List (Nat×Bool)) (s:ah),Inv c G s a w->jg c.E o (eB c.E ops r kn Q) s->∀ Q':Exit->Act->World->Prop,o.wp c.P a w (λ a' w'=>∃ G' s' mj,Inv c G' s' a' w'/\eB c.E ops r mj Q s') Q':=λ kn s hs cC Q' =>
  a8X (λ a' w' ⟨G',s',h1,h2⟩=>⟨G',s',kn,h1,h2⟩) (HC hE hs cC)
 have skip:∀ (kn:List (Nat×Bool)) (s:ah),Inv c G s a w->eB c.E ops r kn Q (s.put o.dst .dN)->∃ G' s' mj,Inv c G' s' (a.put o.dst undef) w/\eB c.E ops r mj Q s':=λ kn s hs hk =>
  ⟨G,_,kn,Inv.put (v := .dN) hs rfl,hk⟩
 simp only[eB] at hr;split at hr
 .rename_i hg;have hw:Region.wanted o (yielded ops a.tmps)=true:=by simp[Region.wanted,hg]
  rw[a7E hw];exact run kn s h hr
 .rename_i g want hg;split at hr
  .exact hr.elim
  .rename_i t ht;split at hr
   .rename_i b hb;split at hr
    .rename_i b' cw;have hx:=aX h (.tmp t);rw[cw] at hx;have hy:=EV (s:=s) ht hx;split at hr
     .rename_i gv Bc;have gv:=eq_of_beq gv;subst gv;have hw:Region.wanted o (yielded ops a.tmps)=true:=by simp[Region.wanted,hg,hy];simpa using Bc
      rw[a7E hw];exact run kn s h hr
     .rename_i gv Bc;have gv:=eq_of_beq gv;subst gv;have hw:Region.wanted o (yielded ops a.tmps)=false:=by simp[Region.wanted,hg,hy];simpa using Bc
      rw[hw];exact skip kn s h hr
     .exact hr.elim
    .rename_i cw;have hx:=aX h (.tmp t);rw[cw] at hx;have hy:=Ba (s:=s) ht hx;have hw:Region.wanted o (yielded ops a.tmps)=false:=by simp[Region.wanted,hg,hy]
     rw[hw];exact skip kn s h hr
    .exact hr.elim
   .split at hr
    .rename_i b cw;have hx:=aX h (.tmp t);rw[cw] at hx;have hy:=EV (s:=s) ht hx;by_cases Bc:b=want
     .have hw:Region.wanted o (yielded ops a.tmps)=true:=by simp[Region.wanted,hg,hy,Bc]
      rw[a7E hw];exact run _ _ (h.slot t cw Bc) (hr.1 Bc)
     .have Uu:b = !want:=by cases b<;>cases want<;>simp_all
      have hw:Region.wanted o (yielded ops a.tmps)=false:=by simp[Region.wanted,hg,hy,Uu]
      rw[hw];exact skip _ _ (h.slot t cw Uu) (hr.2 Uu)
    .rename_i cw;have hx:=aX h (.tmp t);rw[cw] at hx;have hy:=Ba (s:=s) ht hx;have hw:Region.wanted o (yielded ops a.tmps)=false:=by simp[Region.wanted,hg,hy]
     rw[hw];exact skip kn s h hr
    .exact hr.elim
theorem vM(hE:bo c.P c.E){ops:Array Oper}{Q:ah->Prop}{Q':Exit->Act->World->Prop}(hQ:∀ G s a w,Inv c G s a w->Q s->Q' .normal a w) :
  ∀ (r:List Oper) (i:Nat) (kn:List (Nat×Bool)) (G:Gh) (s:ah) (a:Act) (w:World),(∀ j o,r[j]?=some o->ops[i+j]?=some o)->Inv c G s a w->eB c.E ops r kn Q s->wpOps c.P ops Q' (List.range' i r.length) a w
 | [],i,kn,G,s,a,w,_,h,hr=>hQ G s a w h hr
 | o::r,i,kn,G,s,a,w,a2y,h,hr=>by
  have ho:ops[i]?=some o:=a2y 0 o rfl;have sN:∀ j p,r[j]?=some p->ops[i+1+j]?=some p:=λ j p hj=>by
   have:=a2y (j+1) p (by simpa using hj);rwa [show i+(j+1)=i+1+j by omega] at this
  simp only[a7I,List.range'_succ,wpOps,ho];have sQ:=x7 hE h hr;split at sQ
  .rename_i hw;rw[a7E hw];exact .inl (a8X (λ a' w' ⟨G',s',mj,h1,h2⟩=>vM hE hQ r (i+1) mj G' s' a' w' sN h1 h2) (sQ Q'))
  .rename_i hw;rw[a7z hw];obtain⟨G',s',mj,h1,h2⟩:=sQ;exact vM hE hQ r (i+1) mj G' s' _ w sN h1 h2
end
structure H0 where
 Dh:Bool
 v:AV
 ob:Option aw
def GV(want Dh:Bool):AV->Prop
 | .aQ ⟨.bool,b⟩=>Dh=(b == want)
 | .dN=>Dh=false
 | _=>False
def e8(l:List Oper)(bits:Nat)(s:ah)(o:Oper)(Dh:Bool):Prop :=
 match o.guard with
 | none=>Dh=true
 | some (g,want)=>∃ t v,bZ l g=some t/\Nat.testBit bits g=true/\s.eval (.tmp t)=v/\GV want Dh v
def LP(E:Env)(l:List Oper)(m bits:Nat)(s:ah)(o:Oper)(e:H0):Prop :=
 e8 l bits s o e.Dh/\(e.Dh=true->∃ vc:Vc,Fp E (Lc l m bits s) (OE l m bits s) o=some (vc,e.v,e.ob)/\vc.ok)/\(e.Dh=false->e.v = .dN/\e.ob=none)
def Trace(E:Env)(l:List Oper)(m:Nat)(bM:List Nat):Nat->List Oper->List H0->ah->ah->Prop
 | _,[],[],s,s'=>s=s'
 | i,o::r,e::es,s,s'=>LP E l m (bM.getD i 0) s o e/\Trace E l m bM (i+1) r es (s.hU o.dst e.v e.ob) s'
 | _,_,_,_,_=>False
def PX{s:ah}{t:Nat}{v:AV}(h:s.eval (.tmp t)=v)(hv:v ≠ .any):s.put (some t) v=s:=by
 have bp:t<s.aA.length:=by
  rcases a8m t s.aA.length with hl|hl
  .exact hl
  .simp only[ah.eval,a7G,a9Y hl,Option.getD_none] at h;exact absurd h.symm hv
 simp only[ah.eval,a7G,a7L bp,a9M] at h;simp only[ah.put];congr 1;subst h;exact List.set_getElem_self bp
def I6(s:ah)(d:Option Nat):s.hU d .dN none=s.put d .dN:=by cases d<;>rfl
def oJ{E:Env}{l:List Oper}{m:Nat}{bM:List Nat}{Q:List (Nat×Bool)->ah->Prop}:∀ {r:List Oper} {i:Nat} {kn:List (Nat×Bool)} {s:ah},kh E l m bM i r kn Q s ->
  ∃ es mj s',Trace E l m bM i r es s s'/\Q mj s'
 | [],i,kn,s,h=>⟨[],kn,s,rfl,h⟩
 | o::r,i,kn,s,h=>by
  have run:∀ kn,e8 l (bM.getD i 0) s o true->HD E l m (bM.getD i 0) o (kh E l m bM (i+1) r kn Q) s->∃ es mj s',Trace E l m bM i (o::r) es s s'/\Q mj s':=by
   intro kn hg hr;unfold HD at hr;split at hr
   .split at hr
    .rename_i vc v ob hq;obtain⟨es,mj,s',h1,h2⟩:=oJ (Vc.iA hr).2;exact⟨⟨true,v,ob⟩::es,mj,s',⟨⟨hg,λ _=>⟨vc,hq,(Vc.iA hr).1⟩,λ h=>(by cases h)⟩,h1⟩,h2⟩
    .exact hr.elim
   .exact hr.elim
  have skip:∀ kn,e8 l (bM.getD i 0) s o false->kh E l m bM (i+1) r kn Q (s.put o.dst .dN)->∃ es mj s',Trace E l m bM i (o::r) es s s'/\Q mj s':=by
   intro kn hg hr;obtain⟨es,mj,s',h1,h2⟩:=oJ hr;exact⟨⟨false, .dN,none⟩::es,mj,s',⟨⟨hg,λ h=>(by cases h),λ _=>⟨rfl,rfl⟩⟩,by rw[I6];exact h1⟩,h2⟩
  simp only[kh] at h;split at h
  .rename_i hg;exact run kn (by simp[e8,hg]) h
  .rename_i g want hg;split at h
   .rename_i t ht PJ;split at h
    .rename_i b hb;split at h
     .rename_i b' cw;split at h
      .rename_i gv Bc;have gv:=eq_of_beq gv;subst gv;exact run kn (by simp only[e8,hg];exact⟨t,_,ht,PJ,cw,Bc.symm⟩) h
      .rename_i gv Bc;have gv:=eq_of_beq gv;subst gv;exact skip kn (by simp only[e8,hg];exact⟨t,_,ht,PJ,cw,Bc.symm⟩) h
      .exact h.elim
     .rename_i cw;exact skip kn (by simp only[e8,hg];exact⟨t,_,ht,PJ,cw,rfl⟩) h
     .exact h.elim
    .split at h
     .rename_i b cw;by_cases Bc:b=want
      .have h':=h.1 Bc;subst Bc;rw[PX cw (by simp)] at h';exact run _ (by simp only[e8,hg];exact⟨t,_,ht,PJ,cw,by simp[GV]⟩) h'
      .have Uu:b = !want:=by cases b<;>cases want<;>simp_all
       have h':=h.2 Uu;rw[<-Uu,PX cw (by simp)] at h';exact skip _ (by simp only[e8,hg];exact⟨t,_,ht,PJ,cw,by simpa [GV] using Bc⟩) h'
     .rename_i cw;exact skip kn (by simp only[e8,hg];exact⟨t,_,ht,PJ,cw,rfl⟩) h
     .exact h.elim
   .exact h.elim
def dz(l:List Oper)(es:List H0)(s0:ah)(π:List Nat):ah :=
 π.foldl (λ s k=>s.hU (bZ l k) (es.getD k ⟨false, .any,none⟩).v (es.getD k ⟨false, .any,none⟩).ob) s0
def I7(s:ah)(d:Option Nat)(v:AV)(o:Option aw):(s.hU d v o).aA.length=s.aA.length:=by cases d<;>simp[ah.hU]
def Hh(l:List Oper)(es:List H0):∀ (π:List Nat) (s0:ah),(dz l es s0 π).aA.length=s0.aA.length
 | [],_=>rfl
 | k::π,s0=>by
  show (dz l es (s0.hU _ _ _) π).aA.length=_;rw[Hh l es π,I7]
def HH(s:ah)(d:Option Nat)(v:AV)(o:Option aw):(s.hU d v o).sl=iz s.aA.length s.sl d v:=by
 cases d with
 | none=>funext i;simp[ah.hU,iz]
 | some d=>exact nz s.aA d v _
def yC(s:ah)(d:Option Nat)(v:AV)(o:Option aw)(j:Nat):(s.hU d v o).ag j=if d=some j then (match o with
  | some o=>some o
  | none=>s.ag j) else s.ag j:=by
 cases d with
 | none=>simp[ah.hU]
 | some d =>
  cases o with
  | none =>
   simp only[ah.hU,ah.ag,ite_self]
  | some o =>
   show ag ((d,o)::s.aH) j=_;rw[dj];by_cases h:j=d
   .subst h;simp
   .have:¬ (some d=some j):=by simp;exact λ e=>h e.symm
    rw[a7z h,a7z this];rfl
def fC(l:List Oper)(es:List H0)(t:Nat):∀ (π:List Nat) (s0:ah),(∀ k∈π,bZ l k≠some t)->(dz l es s0 π).sl t=s0.sl t/\(dz l es s0 π).ag t=s0.ag t
 | [],_,_=>⟨rfl,rfl⟩
 | k::π,s0,h=>by
  obtain⟨h1,h2⟩:=fC l es t π (s0.hU (bZ l k) (es.getD k ⟨false, .any,none⟩).v (es.getD k ⟨false, .any,none⟩).ob) (λ j hj=>h j (by simp[hj]));have hk:=h k (by simp);constructor
  .show (dz l es (s0.hU _ _ _) π).sl t=_;rw[h1,HH,iz,a7z (λ hh=>hk hh.1)]
  .show (dz l es (s0.hU _ _ _) π).ag t=_;rw[h2,yC,a7z hk]
def tN(l:List Oper)(es:List H0)(t k:Nat)(hk:bZ l k=some t):∀ (π:List Nat) (s0:ah),k∈π->π.Nodup->(∀ j∈π,j≠k->bZ l j≠some t) ->
  (dz l es s0 π).sl t=(if t<s0.aA.length then (es.getD k ⟨false, .any,none⟩).v else s0.sl t) /\
  (dz l es s0 π).ag t=(match (es.getD k ⟨false, .any,none⟩).ob with
   | some o=>some o
   | none=>s0.ag t)
 | [],_,h,_,_=>by simp at h
 | j::π,s0,h,hn,ho=>by
  have rm:=a8b.1 hn;by_cases hj:j=k
  .subst hj;obtain⟨h1,h2⟩:=fC l es t π (s0.hU (bZ l j) (es.getD j ⟨false, .any,none⟩).v (es.getD j ⟨false, .any,none⟩).ob) (λ i hi=>ho i (by simp[hi]) (λ e=>by subst e;exact rm.1 hi));constructor
   .show (dz l es (s0.hU _ _ _) π).sl t=_;rw[h1,HH,iz];simp[hk]
   .show (dz l es (s0.hU _ _ _) π).ag t=_;rw[h2,yC,a7E hk]
  .have GZ:=ho j (by simp) hj;obtain⟨h1,h2⟩:=tN l es t k hk π (s0.hU (bZ l j) (es.getD j ⟨false, .any,none⟩).v (es.getD j ⟨false, .any,none⟩).ob) (by simpa [Ne.symm hj] using h) rm.2 (λ i hi=>ho i (by simp[hi]));constructor
   .show (dz l es (s0.hU _ _ _) π).sl t=_;rw[h1,I7,HH,iz,a7z (c:=bZ l j=some t/\_) (λ hh=>GZ hh.1)]
   .show (dz l es (s0.hU _ _ _) π).ag t=_;rw[h2];split
    .rfl
    .rw[yC,a7z GZ]
def N6{l:List Oper}{es:List H0}{m bits:Nat}{s0:ah}{π π':List Nat}(mY:∀ j k t,j<m->k<m->bZ l j=some t->bZ l k=some t->j=k)
  (UK:∀ k∈π,k<m) (M7:∀ k∈π',k<m) (hn:π.Nodup) (rm:π'.Nodup) (ha:∀ k,k<m->Nat.testBit bits k=true->k∈π/\k∈π') (t:Nat) (hh:hidden l m bits t=false) :
  (dz l es s0 π).sl t=(dz l es s0 π').sl t/\(dz l es s0 π).ag t=(dz l es s0 π').ag t:=by
 by_cases hex:∃ k,k<m/\bZ l k=some t
 .obtain⟨k,hk,hd⟩:=hex;have hb:Nat.testBit bits k=true:=by
   have:=hh;unfold hidden at this;rw[List.any_eq_false] at this;have:=this k (by simpa using hk);simp only[hd] at this;simp only[Nat.beq_refl] at this;simpa using this
  obtain⟨h1,h2⟩:=ha k hk hb;obtain⟨e1,e2⟩:=tN l es t k hd π s0 h1 hn (λ j hj dm Ai=>dm (mY j k t (UK j hj) hk Ai hd));obtain⟨e3,e4⟩:=tN l es t k hd π' s0 h2 rm (λ j hj dm Ai=>dm (mY j k t (M7 j hj) hk Ai hd));exact⟨e1.trans e3.symm,e2.trans e4.symm⟩
 .have gZ:∀ k,k<m->bZ l k≠some t:=λ k hk hd=>hex ⟨k,hk,hd⟩;obtain⟨e1,e2⟩:=fC l es t π s0 (λ k hk=>gZ k (UK k hk));obtain⟨e3,e4⟩:=fC l es t π' s0 (λ k hk=>gZ k (M7 k hk));exact⟨e1.trans e3.symm,e2.trans e4.symm⟩
def B6(acc:List Nat)(k:Nat):∀ (es:List Edge) (s:Nat),Nat.testBit (es.foldl (rE acc) s) k=true->Nat.testBit s k=true\/∃ e∈es,Region.binds .any e=true/\(k=e.on\/Nat.testBit (acc.getD e.on 0) k=true)
 | [],s,h => .inl h
 | e::es,s,h=>by
  simp only[a9E] at h;rcases B6 acc k es _ h with h|⟨e',xf,h⟩
  .unfold rE at h;split at h
   .rename_i hb;simp only[Nat.testBit_or,a9c] at h;rcases h with h|h|h
    .exact .inl h
    .refine .inr ⟨e,by simp,hb, .inl ?_⟩;rw[Nat.one_shiftLeft,Nat.testBit_two_pow] at h;exact (a7Z h).symm
    .exact .inr ⟨e,by simp,hb, .inr h⟩
   .exact .inl h
  .exact .inr ⟨e',by simp[xf],h⟩
def um:∀ (l:List Oper) (acc:List Nat),∃ r,bG l acc=acc++r/\r.length=l.length /\
  ∀ i o,l[i]?=some o->∀ k,Nat.testBit ((acc++r).getD (acc.length+i) 0) k=true->∃ e∈o.after.toList,Region.binds .any e=true/\(k=e.on\/(e.on<acc.length+i/\Nat.testBit ((acc++r).getD e.on 0) k=true))
 | [],acc=>⟨[],by simp[bG],rfl,by simp⟩
 | o::l,acc=>by
  simp only[bG];obtain⟨r,h1,h2,h3⟩:=um l (acc++[o.after.toList.foldl (rE acc) 0]);refine⟨_::r,by rw[h1,a8c];rfl,by simp[h2],λ i p hp k hk=>?_⟩;cases i with
  | zero =>
   simp at hp;subst hp;have fg:Nat.testBit (o.after.toList.foldl (rE acc) 0) k=true:=by
    simpa [List.getD_eq_getElem?_getD] using hk
   rcases B6 acc k _ 0 fg with h|⟨e,he,hb,h⟩
   .simp at h
   .refine⟨e,he,hb,h.imp id λ h=>?_⟩;have bp:e.on<acc.length:=by
     rcases a8m e.on acc.length with hl|hl
     .exact hl
     .simp[a7G,a9Y hl] at h
    refine⟨by omega,?_⟩;rw[a7G,a8H bp,<-a7G];exact h
  | succ i =>
   have:=h3 i p (by simpa using hp) k (by
    have e1:(acc++[o.after.toList.foldl (rE acc) 0]).length+i=acc.length+(i+1):=by simp;omega
    rw[e1,a8c];exact hk)
   obtain⟨e,he,hb,h⟩:=this;refine⟨e,he,hb,h.imp id λ ⟨h1,h2⟩=>⟨by simp at h1;omega,?_⟩⟩;rw[a8c] at h2;exact h2
def wq:∀ (l:List Nat) (i m0:Nat),m0<=i->lC l i m0<=i+l.length/\m0<=lC l i m0/\∀ j b,l[j]?=some b->lC l i m0<=i+j->b+1=2 ^ (i+j)
 | [],i,m0,h=>by simp[lC];exact h
 | b::l,i,m0,h=>by
  simp only[lC];split
  .rename_i hb;have hb:=a7w hb;obtain⟨h1,h2,h3⟩:=wq l (i+1) m0 (by omega);refine⟨by simp;omega,h2,λ j b' hj hle=>?_⟩;cases j with
   | zero=>simp at hj;subst hj;exact hb
   | succ j=>rw[show i+(j+1)=i+1+j by omega];exact h3 j b' (by simpa using hj) (by omega)
  .obtain⟨h1,h2,h3⟩:=wq l (i+1) (i+1) (a7P _);refine⟨by simp;omega,by omega,λ j b' hj hle=>?_⟩;cases j with
   | zero=>omega
   | succ j=>rw[show i+(j+1)=i+1+j by omega];exact h3 j b' (by simpa using hj) (by omega)
theorem rK(l:List Oper)(es:List H0)(s0:ah)(π:List Nat)(i:Nat):dz l es s0 (π++[i])=(dz l es s0 π).hU (bZ l i) (es.getD i ⟨false, .any,none⟩).v (es.getD i ⟨false, .any,none⟩).ob:=by
 simp[dz,a9G]
theorem P8{E:Env}{l:List Oper}{m:Nat}{bM:List Nat}{s0:ah}:∀ (r:List Oper) (i:Nat) (es vO:List H0) (s s':ah),Trace E l m bM i r es s s'->(∀ j o,r[j]?=some o->l[i+j]?=some o)->vO.length=i ->
  s=dz l (vO++es) s0 (List.range i) ->
  (∀ j o,r[j]?=some o->LP E l m (bM.getD (i+j) 0) (dz l (vO++es) s0 (List.range (i+j))) o ((vO++es).getD (i+j) ⟨false, .any,none⟩))/\s'=dz l (vO++es) s0 (List.range (i+r.length))
 | [],i,[],vO,s,s',h,_,_,hs=>by
  have h:s=s':=h;subst h;exact⟨by simp,by simpa using hs⟩
 | o::r,i,e::es,vO,s,s',h,hl,h0,hs=>by
  obtain⟨h1,h2⟩:=h;have ho:l[i]?=some o:=hl 0 o rfl;have J2:(vO++e::es).getD i ⟨false, .any,none⟩=e:=by simp[a7G,<-h0]
  have bU:s.hU o.dst e.v e.ob=dz l ((vO++[e])++es) s0 (List.range (i+1)):=by
   rw[a8c,b1o,rK,a9Z,J2,<-hs];simp[bZ,ho]
  have ih:=P8 r (i+1) es (vO++[e]) _ s' h2 (λ j p hj=>by
   have:=hl (j+1) p (by simpa using hj);rwa [show i+(j+1)=i+1+j by omega] at this) (by simp[h0]) bU
  rw[a8c,a9Z] at ih;refine⟨λ j p hj=>?_,by rw[ih.2];congr 2;simp;omega⟩;cases j with
  | zero =>
   simp at hj;subst hj;rw[a9u,J2,<-hs];exact h1
  | succ j =>
   have:=ih.1 j p (by simpa using hj);rwa [show i+1+j=i+(j+1) by omega] at this
 | [],_,_::_,_,_,_,h,_,_,_=>h.elim
 | _::_,_,[],_,_,_,h,_,_,_=>h.elim
theorem rH:∀ (m:Nat) (π:List Nat),π.Nodup->(∀ k∈π,k<m)->π.length<=m
 | 0,π,_,h=>by
  cases π with
  | nil=>simp
  | cons k r=>exact absurd (h k (by simp)) (by omega)
 | m+1,π,hn,h=>by
  by_cases hm:m∈π
  .have h1:=rH m (π.erase m) (hn.erase m) (λ k hk=>by
    have h2:=(hn.mem_erase_iff).1 hk;have:=h k h2.2;have:=h2.1;omega)
   have h3:=a9w hm;have:0<π.length:=a9B hm;omega
  .have:=rH m π hn (λ k hk=>by
    have:=h k hk;have:k≠m:=λ e=>by subst e;exact hm hk
    omega)
   omega
section
variable {c:Ctx} {G:Gh} {s:ah} {a:Act} {w w':World}
theorem C1.dI{lk:Nat->Option aw}{v:AV}{x:Value}(h:C1 c G lk w v x){d:Nat}(hr:v.refs d=true):lk d≠none:=by
 cases v with
 | ptr i o =>
  have:=a7w (show Nat.beq i d=true from hr);subst this;obtain⟨_,_,_,h3⟩:=h;intro e;rw[e] at h3;cases h3
 | row i =>
  have:=a7w (show Nat.beq i d=true from hr);subst this;obtain⟨_,h3,_⟩:=h;intro e;rw[e] at h3;cases h3
 | dS i k o =>
  have:=a7w (show Nat.beq i d=true from hr);subst this;obtain⟨_,_,_,_,_,_,_,h3,_⟩:=h;intro e;rw[e] at h3;cases h3
 | aC i =>
  have:=a7w (show Nat.beq i d=true from hr);subst this;intro e;have h1:=h.1;rw[e] at h1;cases h1
 | sub i k o z =>
  have:=a7w (show Nat.beq i d=true from hr);subst this;intro e;have h1:=h.1;rw[e] at h1;cases h1
 | ed i k o z =>
  have:=a7w (show Nat.beq i d=true from hr);subst this;intro e;have h1:=h.1;rw[e] at h1;cases h1
 | mp i =>
  have:=a7w (show Nat.beq i d=true from hr);subst this;intro e;have h1:=h.2.1;rw[e] at h1;cases h1
 | agg cs=>exact h.elim
 | fZ cs=>exact h.elim
 | cK f cs=>exact h.elim
 | _=>cases hr
theorem mF{d:Nat}:∀ {cs:List AV},AV.eZ d cs=true->∃ v∈cs,v.refs d=true
 | v::r,h=>by
  simp only[AV.eZ] at h;split at h
  .rename_i hv;exact⟨v,by simp,hv⟩
  .obtain⟨u,hu,hr⟩:=mF h;exact⟨u,by simp[hu],hr⟩
theorem aM.mem_left{α β:Type}{R:α->β->Prop}:∀ {Z9:List α} {bs:List β},aM R Z9 bs->∀ x∈Z9,∃ y,R x y
 | _::_,b::_,h,x,hx=>by
  rcases a7J.1 hx with rfl|hx
  .exact⟨b,h.1⟩
  .exact aM.mem_left h.2 x hx
theorem VR.dI{lk:Nat->Option aw}{v:AV}{x:Value}(h:VR c G lk w v x){d:Nat}(hr:v.refs d=true):lk d≠none:=by
 cases v with
 | aQ u=>cases hr
 | agg cs =>
  obtain⟨l,_,hl⟩:=h;obtain⟨u,hu,Bi⟩:=mF (show AV.eZ d cs=true from hr);obtain⟨y,hy⟩:=hl.mem_left u hu;exact hy.dI Bi
 | fZ vs =>
  obtain⟨l,_,hl⟩:=h;obtain⟨u,hu,Bi⟩:=mF (show AV.eZ d vs=true from hr);obtain⟨y,hy⟩:=hl.mem_left u hu;cases u with
  | aC i=>exact C1.dI (c:=c) (G:=G) (w:=w) (v := .aC i) hy Bi
  | agg cs =>
   obtain⟨l,_,hl⟩:=hy;obtain⟨u,hu,Bi⟩:=mF (show AV.eZ d cs=true from Bi);obtain⟨y,hy⟩:=hl.mem_left u hu;exact hy.dI Bi
  | _=>first|(cases Bi;done)|exact hy.elim
 | cK f vs =>
  obtain⟨l,_,hl⟩:=h;obtain⟨u,hu,Bi⟩:=mF (show AV.eZ d vs=true from hr);obtain⟨y,hy⟩:=hl.mem_left u hu;rcases hy.inv with ⟨v,rfl,_⟩|⟨cs,l,rfl,_,hl⟩|h1
  .cases Bi
  .obtain⟨u,hu,Bi⟩:=mF (show AV.eZ d cs=true from Bi);obtain⟨y,hy⟩:=hl.mem_left u hu;exact hy.dI Bi
  .exact h1.dI Bi
 | ptr i o=>exact C1.dI (c:=c) (G:=G) (w:=w) (v := .ptr i o) h hr
 | row i=>exact C1.dI (c:=c) (G:=G) (w:=w) (v := .row i) h hr
 | dS i k o=>exact C1.dI (c:=c) (G:=G) (w:=w) (v := .dS i k o) h hr
 | aC i=>exact C1.dI (c:=c) (G:=G) (w:=w) (v := .aC i) h hr
 | sub i k o z=>exact C1.dI (c:=c) (G:=G) (w:=w) (v := .sub i k o z) h hr
 | ed i k o z=>exact C1.dI (c:=c) (G:=G) (w:=w) (v := .ed i k o z) h hr
 | mp i=>exact C1.dI (c:=c) (G:=G) (w:=w) (v := .mp i) h hr
 | _=>cases hr
theorem Inv.NI(h:Inv c G s a w){d:Nat}(hd:s.ag d=none):(∀ i,(s.sl i).refs d=false)/\∀ i o,s.ag i=some o->o.refs d=false:=by
 refine⟨λ i=>?_,λ i o ho=>?_⟩
 .cases hr:(s.sl i).refs d with
  | false=>rfl
  | true=>exact absurd hd ((h.aA i).dI hr)
 .cases o with
  | row e τ xs=>rfl
  | aC τ xs=>rfl
  | map m=>rfl
  | box cs =>
   cases hr:aw.refs d (.box cs) with
   | false=>rfl
   | true =>
    obtain⟨b,l,t,_,_,k3⟩:=h.aH i _ ho;obtain⟨u,hu,Bi⟩:=mF (show AV.eZ d cs=true from hr);obtain⟨y,hy⟩:=k3.mem_left u hu;exact absurd hd (hy.dI Bi)
theorem J8(h0:Inv c G s a w){d:Option Nat}{v:AV}{ob:Option aw}{a':Act}(EX:pE d=true)(qh:∀ i o,d=some i->ob=some o->s.ag i=none)(h:uj c G s.sl s.aA.length s.ag d a w v ob a' w') :
  ∃ G',Inv c G' (s.hU d v ob) a' w':=by
 obtain⟨x,S',rfl,hI,hx⟩:=h;cases ob with
 | none =>
  refine⟨⟨S',G.η,G.φ⟩,?_⟩;have:s.hU d v none=s.put d v:=by cases d<;>rfl
  rw[this];exact Inv.put (s:=s) hI hx
 | some o =>
  obtain⟨hL,hN,hb⟩:=hx;have hd:∃ i,d=some i:=by cases o<;>first|exact⟨_,hL.choose_spec.1⟩|exact hL.elim
  obtain⟨i,rfl⟩:=hd;have hi:=qh i o rfl rfl;have tZ:Inv c ⟨S',G.η,G.φ⟩ s a w':=hI;obtain⟨UC,W2⟩:=tZ.NI hi;have hor:o.refs i=false:=by
   cases o with
   | row e τ xs=>rfl
   | aC τ xs=>rfl
   | map m=>rfl
   | box cs =>
    cases hr:aw.refs i (.box cs) with
    | false=>rfl
    | true =>
     obtain⟨b,l,t,_,_,k3⟩:=hN;obtain⟨u,hu,Bi⟩:=mF (show AV.eZ i cs=true from hr);obtain⟨y,hy⟩:=k3.mem_left u hu;exact absurd hi (hy.dI Bi)
  have nM:OR c ⟨S',λ j=>if j=i then x else G.η j,G.φ⟩ (λ j=>if j=i then some o else s.ag j) w' i o:=by
   cases o with
   | box cs =>
    obtain⟨b,l,t,k1,k2,k3⟩:=hN;refine⟨b,l,t,by simp[k1],k2,k3.imp λ u y hu hy=>hy.mono (λ j hj=>?_) (λ _ h=>h) (λ _ _=>rfl)⟩;have dm:j≠i:=λ e=>by
     subst e;have:=jQ hu hj;rw[show AV.eZ j cs=aw.refs j (.box cs) from rfl,hor] at this;cases this
    simp only[a7z dm];exact⟨eg.refl _,af⟩
   | row e τ xs =>
    obtain⟨l,k1,k2,k3⟩:=hN;exact⟨l,by simpa using k1,k2,k3⟩
   | aC τ xs=>exact hN.elim
   | map m =>
    obtain⟨b,es,clock,k1,k2,k3⟩:=hN;exact⟨b,es,clock,by simp[k1],k2,k3⟩
  have Sz:cU (some o)=false:=by
   cases o with
   | aC τ xs=>exact hN.elim
   | _=>rfl
  have h4:=bf.newObj tZ i o x hi UC W2 hor nM Sz (.inr (a8w EX)) (λ b ID=>by
   obtain⟨q1,q2,q3⟩:=hb b ID;have hle:=h0.aK.size;refine⟨by omega,q3,q2,λ j p WZ KD=>?_,λ j τ xs hj KD=>?_⟩
   .have:=(h0.place j p b WZ KD).2.2;omega
   .have:=(h0.aN.pl j τ xs b hj KD).2.2.1;omega)
  refine⟨⟨S',λ j=>if j=i then x else G.η j,G.φ⟩,?_⟩;unfold Inv;have bP:(s.hU (some i) v (some o)).ag=λ j=>if j=i then some o else s.ag j:=by
   funext j;rw[yC];by_cases hj:j=i
   .subst hj;simp
   .have:¬ (some i=some j):=by simp;exact λ e=>hj e.symm
    rw[a7z this,a7z hj]
  rw[HH,bP,I7];refine bf.put h4 ?_;cases o with
  | box cs =>
   obtain⟨j,hj,rfl⟩:=hL;simp only[a7v] at hj;subst hj;obtain⟨b,l,t,k1,k2,k3⟩:=hN;exact⟨b,by simp[k1],k1,by simp[gH]⟩
  | row e τ xs =>
   obtain⟨j,hj,rfl⟩:=hL;simp only[a7v] at hj;subst hj;obtain⟨l,k1,k2,k3⟩:=hN;refine⟨by simp,by simp[isRow],?_⟩;rcases k1.2 with ⟨rfl,_⟩|⟨g,cap,cur,rfl,_⟩
   .exact⟨_,_,_,rfl⟩
   .exact⟨_,_,_,rfl⟩
  | aC τ xs=>exact hN.elim
  | map m =>
   obtain⟨j,hj,rfl⟩:=hL;simp only[a7v] at hj;subst hj;obtain⟨b,es,clock,k1,k2,k3⟩:=hN;exact⟨by simp,by simp[E5],b,k1⟩
theorem Uj(h:Inv c G s a w)(o:Oper):Inv c G (s.fresh o) a w:=by
 unfold ah.fresh;split
 .rename_i d _ _;obtain⟨h1,_,_⟩:=h.clear d;have bP:ah.ag { s.bO d with aH:=bD d (s.bO d).aH }=λ i=>if i=d then none else (s.bO d).ag i:=by
   funext i;exact dU d _ i
  unfold Inv;show bf c G (s.bO d).sl (s.bO d).aA.length (ah.ag { s.bO d with aH:=bD d (s.bO d).aH }) a w;rw[bP,show (s.bO d).aA.length=s.aA.length from by simp[ah.bO]];exact h1
 .exact h
theorem Sh(s:ah)(o:Oper)(j:Nat):(s.ag j=none->(s.fresh o).ag j=none)/\(sb o.op=true->o.dst=some j->(s.fresh o).ag j=none):=by
 unfold ah.fresh;split
 .rename_i d hc hd;have bP:ah.ag { s.bO d with aH:=bD d (s.bO d).aH } j=if j=d then none else (s.ag j).map (aw.kill d):=by
   show ag (bD d (s.bO d).aH) j=_;rw[dU];have:=congrFun (dM s d) j;show (if j=d then none else (s.bO d).ag j)=_;rw[this]
  rw[bP];refine⟨λ h=>by rw[h];simp,λ _ hj=>?_⟩;rw[hd] at hj;simp only[a7v] at hj;rw[a7E hj.symm]
 .rename_i gZ;exact⟨λ h=>h,λ hc hd=>(gZ j hc hd).elim⟩
theorem yn:∀ (l:List Oper) {s:ah},Inv c G s a w->Inv c G (l.foldl ah.fresh s) a w
 | [],_,h=>h
 | o::r,_,h=>yn r (Uj h o)
theorem vY:∀ (l:List Oper) (s:ah) (j:Nat),(s.ag j=none->(l.foldl ah.fresh s).ag j=none)/\(∀ o∈l,sb o.op=true->o.dst=some j->(l.foldl ah.fresh s).ag j=none)
 | [],s,j=>⟨λ h=>h,by simp⟩
 | o::r,s,j=>by
  obtain⟨h1,h2⟩:=vY r (s.fresh o) j;obtain⟨h3,h4⟩:=Sh s o j;refine⟨λ h=>h1 (h3 h),λ p hp hc hd=>?_⟩;rcases a7J.1 hp with rfl|hp
  .exact h1 (h4 hc hd)
  .exact h2 p hp hc hd
theorem Mh{E:Env}{lk:Nat->Option aw}{f:FuncId}{Ts:List TypeId}{vs:List AV}{vc:Vc}{v:AV}{ob:Option aw}(h:Cg E lk f Ts vs=some (vc,v,ob)):ob=none:=by
 unfold Cg at h;repeat' split at h
 all_goals first
  | (simp only[a7v,a7x] at h;exact h.2.2.symm)
  | cases h
theorem JT{E:Env}{lk:Nat->Option aw}{g:AV}{Ts:List TypeId}{vs:List AV}{vc:Vc}{v:AV}{ob:Option aw}(h:wR E lk g Ts vs=some (vc,v,ob)):ob=none:=by
 unfold wR at h;split at h
 .rename_i r hr;repeat' split at hr
  all_goals first
   | (simp only[a7v] at hr h;subst hr;simp only[a7x] at h;exact h.2.2.symm)
   | cases hr
 .repeat' split at h
  all_goals first
   | (simp only[a7v,a7x] at h;exact h.2.2.symm)
   | cases h
theorem Hx{E:Env}{lk:Nat->Option aw}{ev:Operand->AV}{o:Oper}{vc:Vc}{v:AV}{ob:aw}(h:Fp E lk ev o=some (vc,v,some ob)):sb o.op=true:=by
 unfold Fp at h;split at h;case h_4 T bh=>rw[bh];rfl
 case h_5 T x bh=>rw[bh];rfl
 case h_7 T n ps bh=>rw[bh];rfl
 case h_21 T bh=>rw[bh];rfl
 case h_19 T x y bh=>rw[bh];rfl
 case h_20 cl bh =>
  split at h
  .repeat' split at h
   all_goals first
    | (simp at h;done)
    | cases h
  .rename_i e9;rw[bh];simp[sb,e9]
  .rename_i e9;repeat' (split at h)
   all_goals first|cases h|skip
  .exact absurd (Mh h) (by simp)
  .split at h
   .exact absurd (Mh h) (by simp)
   .exact absurd (JT h) (by simp)
   .exact absurd (JT h) (by simp)
   .cases h
  .cases h
 all_goals (repeat' split at h)
 all_goals first
  | (simp at h;done)
  | cases h
end
end Go.Proofs.YtncejbehidimmaaGreatDoor

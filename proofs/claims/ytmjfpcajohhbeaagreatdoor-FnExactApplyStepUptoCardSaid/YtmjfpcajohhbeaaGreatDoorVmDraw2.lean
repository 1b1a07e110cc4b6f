/- VmEff, VmTree, VmMark, VmOwnOps, VmBuild, VmBuild2, VmSt, VmStep, VmDraw, VmDraw2. -/
import Derived.Test.YtmjfpcajohhbeaaGreatDoorVmOps
import Derived.Eval
set_option linter.all false
namespace Go.Proofs.YtmjfpcajohhbeaaGreatDoor
def b1f:=@List.getD_eq_getElem?_getD
def b3e:=@Array.eq_empty_of_size_eq_zero
def b4I:=@Go.setRow_heap
def b2U:=@List.drop_eq_nil_of_le
def b2k:=@List.length_set
def b2G:=@List.map_append
def b2r:=@Go.Value.tuple.injEq
def b4k:=@List.toArray_inj
def b2t:=@List.mem_cons_of_mem
def b1k:=@List.nodup_append
def b1Z:=@List.cons_append
def b2c:=@List.nodup_nil
def b1G:=@List.nodup_cons
def b2f:=@List.take_append_drop
def b3M:=@List.map_set
def b2X:=@List.getElem?_eq_none
def b2y:=@Bool.or_eq_true
def b3c:=@Nat.lt_irrefl
def b4D:=@Array.toList_append
def b3f:=@List.mem_cons_self
def b3B:=@Classical.byContradiction
def b3J:=@List.nodup_range
def b3g:=@List.Nodup.length_le_of_subset
def b2q:=@Go.Oper.wp_mono
def b4l:=@Option.getD_some
def b3N:=@List.foldl_cons
def b3l:=@List.singleton_append
def b2Q:=@List.length_erase_of_mem
def b2V:=@List.length_pos_of_mem
theorem Jx(f:aG->aG):∀ (l:List (Nat×aG)) (j:Nat),ah (l.map λ p=>(p.1,f p.2)) j=(ah l j).map f
 | [],_=>rfl
 | (k,o)::r,j=>by
  simp only[b1J,ah];split
  .rfl
  .exact Jx f r j
theorem gq(id:Nat):∀ (l:List (Nat×aG)) (j:Nat),ah (cf id l) j=if j=id then none else ah l j
 | [],_=>by simp[cf,ah]
 | (k,o)::r,j=>by
  simp only[cf];split
  .rename_i h;have h:=b0P h;subst h;rw[gq k r j];by_cases hj:j=k
   .simp[hj]
   .rw[b0Y hj,b0Y hj];simp only[ah];split
    .rename_i h;exact absurd (b0P h).symm hj
    .rfl
  .rename_i h;have hk:k≠id:=λ e=>by subst e;simp at h
   simp only[ah];split
   .rename_i h';have h':=b0P h';subst h';rw[b0Y hk]
   .exact gq id r j
theorem eK(k:Nat)(o:aG)(l:List (Nat×aG))(j:Nat):ah ((k,o)::l) j=if j=k then some o else ah l j:=by
 simp only[ah];split
 .rename_i h;rw[b1q (b0P h).symm]
 .rename_i h;have:j≠k:=λ e=>by subst e;simp at h
  rw[b0Y this]
theorem vl(l:List AV)(d:Nat)(v:AV)(o:List (Nat×aG)):ai.sl ⟨l.set d v,o⟩=oK l.length (ai.sl ⟨l,o⟩) (some d) v:=by
 funext i;simp only[ai.sl,oK,b1f,b3G,b0L];by_cases h:d=i
 .subst h;by_cases hl:d<l.length
  .simp[hl]
  .simp[hl]
 .simp[h]
theorem a3b(s:ai)(d:Option Nat)(v:AV):(s.put d v).sl=oK s.aE.length s.sl d v:=by
 cases d with
 | none=>funext i;simp[ai.put,oK]
 | some d=>exact vl s.aE d v s.aR
theorem XV(s:ai)(d:Option Nat)(v:AV):(s.put d v).ah=s.ah:=by cases d<;>rfl
theorem Sl(s:ai)(d:Option Nat)(v:AV):(s.put d v).aE.length=s.aE.length:=by cases d<;>simp[ai.put]
theorem Ye(s:ai)(id:Nat):(s.cF id).sl=λ i=>(s.sl i).kill id:=by
 funext i;simp only[ai.sl,ai.cF,b1f,b2F];cases s.aE[i]?<;>simp[AV.kill,AV.refs]
theorem fN(s:ai)(id:Nat):(s.cF id).ah=λ i=>(s.ah i).map (aG.kill id):=by
 funext i;exact Jx _ _ _
section
variable {c:Ctx} {G:Gh} {s:ai} {a:Act} {w w':World}
theorem Inv.put(h:Inv c G s a w){d:Option Nat}{v:AV}{x:Value}(hv:VR c G s.ah w v x):Inv c G (s.put d v) (a.put d x) w:=by
 unfold Inv;rw[a3b,XV,Sl];exact bH.put h hv
theorem Inv.clear(h:Inv c G s a w)(id:Nat):bH c G (s.cF id).sl s.aE.length (λ i=>if i=id then none else (s.cF id).ah i) a w /\
  (∀ i,((s.cF id).sl i).refs id=false)/\∀ i o,(s.cF id).ah i=some o->o.refs id=false:=by
 have h1:=bH.cF h id;have hs:∀ i,((s.cF id).sl i).refs id=false:=λ i=>by rw[Ye];exact Fh id _
 have ho:∀ i o,(s.cF id).ah i=some o->o.refs id=false:=λ i o cU=>by
  rw[fN] at cU;simp only[b1M] at cU;obtain⟨o',_,rfl⟩:=cU;cases o' with
  | box cs=>exact I2 id cs
  | row e τ xs=>rfl
  | aD τ xs=>rfl
  | map m=>rfl
 refine⟨?_,hs,ho⟩;rw[Ye,fN];exact bH.a6o h1 id (λ i=>Fh id _) (λ i o cU _=>by
  have:=ho i o (by rw[fN];exact cU);exact this)
theorem WW(id:Nat)(o:aG):(o.kill id).refs id=false:=by
 cases o with
 | box cs=>exact I2 id cs
 | row e τ xs=>rfl
 | aD τ xs=>rfl
 | map m=>rfl
theorem Inv.a2K(h:Inv c G s a w){id:Nat}{v:AV}{o:aG}{x:Value}(bX:id<400000)(hN:a2i c G s.ah w x o)(hL:LV (some id) v o)
  (nG:∀ b,gi x=some b->(c.w0.heap.size<=b\/c.X b)/\¬ G.S b/\b<w.heap.size/\(∀ i o',i≠id->s.ah i=some o'->gi (G.η i)≠some b)/\∀ j τ xs,s.ah j=some (.aD τ xs)->b∉G.φ j) :
  Inv c ⟨G.S,λ i=>if i=id then x else G.η i,G.φ⟩ (s.lay (some id) v (some o)) (a.put (some id) x) w:=by
 obtain⟨h1,h2,h3⟩:=h.clear id;have cY:(s.lay (some id) v (some o)).ah=λ i=>if i=id then some (o.kill id) else (if i=id then none else (s.cF id).ah i):=by
  funext i;show ah ((id,o.kill id)::cf id (s.cF id).aR) i=_;rw[eK,gq];rfl
 have Kk:(s.lay (some id) v (some o)).sl=oK s.aE.length (s.cF id).sl (some id) v:=by
  have:=vl (s.cF id).aE id v ((id,o.kill id)::cf id (s.cF id).aR);rw[show (s.cF id).aE.length=s.aE.length from by simp[ai.cF]] at this;exact this
 have hlen:(s.lay (some id) v (some o)).aE.length=s.aE.length:=by simp[ai.lay,ai.cF]
 have vx:OR c ⟨G.S,λ i=>if i=id then x else G.η i,G.φ⟩ (λ i=>if i=id then some (o.kill id) else (if i=id then none else (s.cF id).ah i)) w id (o.kill id):=by
  cases o with
  | box cs =>
   obtain⟨b,l,t,k1,k2,k3⟩:=hN;refine⟨b,l,t,by simp[k1],k2,bf.fX _ (k3.imp λ u y _ hy=>?_)⟩;refine (hy.kill id).mono (λ j hj=>?_) (λ _ h=>h) (λ _ _=>rfl);have gU:j≠id:=λ e=>by subst e;rw[Fh] at hj;cases hj
   simp only[b0Y gU];exact⟨by rw[fN];exact M1 id _,af⟩
  | row e τ xs =>
   obtain⟨l,k1,k2,k3⟩:=hN;exact⟨l,by simpa using k1,k2,k3⟩
  | aD τ xs=>exact hN.elim
  | map m =>
   obtain⟨b,es,clock,k1,k2,k3⟩:=hN;exact⟨b,es,clock,by simp[k1],k2,k3⟩
 have hot:cN (some (o.kill id))=false:=by
  cases o with
  | aD τ xs=>exact hN.elim
  | _=>rfl
 have h4:=bH.newObj h1 id (o.kill id) x (by simp) h2 (λ i p yP=>by
  by_cases hi:i=id
  .simp[hi] at yP
  .rw[b0Y hi] at yP;exact h3 i p yP) (WW id o) vx hot (.inr bX) (λ b hb=>by
  obtain⟨q1,q2,q3,q4,q5⟩:=nG b hb;refine⟨q1,q2,q3,λ i p yP=>?_,λ j τ xs hj=>?_⟩
  .by_cases hi:i=id
   .simp[hi] at yP
   .rw[b0Y hi,fN] at yP;simp only[b1M] at yP;obtain⟨p',Vb,_⟩:=yP;exact q4 i p' hi Vb
  .by_cases hi:j=id
   .simp[hi] at hj
   .rw[b0Y hi,fN] at hj;exact q5 j τ xs (oh hj))
 unfold Inv;rw[Kk,cY,hlen];refine bH.put h4 ?_;cases o with
 | box cs =>
  obtain⟨i,hi,rfl⟩:=hL;simp only[b0L] at hi;subst hi;obtain⟨b,l,t,k1,k2,k3⟩:=hN;exact⟨b,by simp[k1],k1,by simp[aG.kill,jG]⟩
 | row e τ xs =>
  obtain⟨i,hi,rfl⟩:=hL;simp only[b0L] at hi;subst hi;obtain⟨l,k1,k2,k3⟩:=hN;refine⟨by simp,by simp[aG.kill,isRow],?_⟩;rcases k1.2 with ⟨rfl,_⟩|⟨g,cap,cur,rfl,_⟩
  .exact⟨_,_,_,rfl⟩
  .exact⟨_,_,_,rfl⟩
 | aD τ xs=>exact hN.elim
 | map m =>
  obtain⟨i,hi,rfl⟩:=hL;simp only[b0L] at hi;subst hi;obtain⟨b,es,clock,k1,k2,k3⟩:=hN;exact⟨by simp,by simp[aG.kill,MA],b,k1⟩
theorem Vr(h0:Inv c G s a w){d:Option Nat}(Mp:xL d=true){v:AV}{ob:Option aG}{a':Act}(h:Bg c G s.sl s.aE.length s.ah d a w v ob a' w'):∃ G',Inv c G' (s.lay d v ob) a' w':=by
 obtain⟨x,S',rfl,hI,hx⟩:=h;cases ob with
 | none=>exact⟨_,by cases d<;>exact Inv.put (s:=s) hI hx⟩
 | some o =>
  obtain⟨hL,hN,hb⟩:=hx;have hd:∃ i,d=some i:=by cases o<;>first|exact⟨_,hL.choose_spec.1⟩|exact hL.elim
  obtain⟨i,rfl⟩:=hd;refine⟨_,Inv.a2K (s:=s) hI (b1r Mp) hN hL λ b U1=>?_⟩;obtain⟨h1,h2,h3⟩:=hb b U1;have hle:=h0.bd.size;refine⟨by omega,h3,h2,λ j o' _ hj SV=>?_,λ j τ xs hj SV=>?_⟩
  .have:=(h0.place j o' b hj SV).2.2;omega
  .have:=(h0.aW.pl j τ xs b hj SV).2.2.1;omega
theorem ZT{k:IntKind}{n:Int}(h:UB k n=true):k.min<=n/\n<=k.max:=by
 unfold UB at h;split at h
 .rename_i m;split at h<;>have h:=b1r h<;>try (simp[IntKind.min,IntKind.max,IntKind.signed,IntKind.bits];omega)
  cases k<;>simp_all [IntKind.min,IntKind.max,IntKind.signed,IntKind.bits]<;>omega
 .rename_i m;split at h
  .have h:=b1r h;simp[IntKind.min,IntKind.max,IntKind.signed,IntKind.bits];omega
  .cases h
theorem KQ(lk:Nat->Option aG)(v:Value):C1 c G lk w (N4 v) v:=by
 unfold N4;split
 .split
  .rename_i h;exact⟨rfl,rfl,ZT h⟩
  .trivial
 .exact⟨rfl,rfl⟩
 .split
  .rename_i sv _ h;have h:=b1r h;exact⟨rfl,sv,rfl,rfl,by have:sv.size=sv.data.size:=rfl;omega⟩
  .trivial
 .rfl
 .trivial
theorem bI(h:Inv c G s a w)(x:Operand):VR c G s.ah w (s.eval x) (a.eval x):=by
 cases x with
 | tmp t=>exact h.aE t
 | const v =>
  simp only[ai.eval,Act.eval];unfold ZS;split
  .rename_i cs;refine⟨cs.toList,rfl,bf.fX _ ?_⟩;have:∀ l:List Value,bf (λ u y=>C1 c G s.ah w (N4 u) y) l l:=by
    intro l;induction l with
    | nil=>trivial
    | cons u r ih=>exact⟨KQ _ u,ih⟩
   exact this _
  .rename_i cs;split
   .rename_i hz;have:cs = #[]:=b3e (b0P hz);subst this;exact rfl
   .trivial
  .exact (KQ _ v).jS
 | global g=>trivial
 | func f=>rfl
theorem ru{g:Nat}{old cs:Array Value}{t:TypeId}{fr:Nat×Nat}(w:World)(hg:w.heap[g]?=some (.cells old t fr))(k:Nat)(hk:k≠g):(w.setRow g cs).heap[k]?=w.heap[k]?:=setRow_other w g k cs hk
theorem yW(hE:bU c.P c.E){T:TypeId}{τ:Ty}{b e:Nat}(hT:ah c.E.ty T=some (τ,b,e)){g o:Nat}{l:List Value}{t:TypeId}{x:Value}(hg:w.heap[g]?=some (.cells l.toArray t (0,0)))
  (hx:x.cells.toList.length=τ.size) (h1:∀ u∈x.cells.toList,u.oneCell'=true) (DU:o+τ.size<=l.length) :
  (Instr.storeAt T (.pointer (some ⟨g,o,none⟩)) x).run c.P w = .ok () (w.setRow g (l.take o++x.cells.toList++l.drop (o+τ.size)).toArray):=by
 have hn:¬ (x.cells.size≠τ.size):=by simpa using hx
 simp only[Instr.storeAt,Instr.sureAddr,storeVar,Sem.run_bind,Sem.run_pure,Result.andThen_ok,hE.sizeOf hT,if_neg hn];have:=run_storeCells_at c.P g o t x.cells.toList 0 l.toArray w hg (by simp at hx ⊢;omega) h1;simpa [hx] using this
theorem W0{cs new eJ:List AV}{off:Nat}(h:putCells cs off new=some eJ):off+new.length<=cs.length/\eJ=cs.take off++(new++cs.drop (off+new.length)):=by
 unfold putCells at h;split at h
 .rename_i hb;simp only[b0L] at h;exact⟨b1r hb,h.symm⟩
 .cases h
theorem Inv.store(hE:bU c.P c.E)(h:Inv c G s a w){T:TypeId}{τ:Ty}{bt e:Nat}(hT:ah c.E.ty T=some (τ,bt,e)){id off:Nat}{cs new eJ:List AV}{x p:Value}(bm:s.ah id=some (.box cs))(hp:VR c G s.ah w (.ptr id off) p)
  (vx:∃ v,cellsOf τ v=some new/\VR c G s.ah w v x) (DX:putCells cs off new=some eJ) :
  ∃ w',(Instr.storeAt T p x).run c.P w = .ok () w'/\Inv c G { s with aR:=(id, .box eJ)::cf id s.aR } a w':=by
 obtain⟨v,hv,hx⟩:=vx;obtain⟨h1,h2,h3⟩:=Cy hv hx;obtain⟨h4,rfl⟩:=W0 DX;obtain⟨b,k1,rfl,_⟩:=hp;obtain⟨b',l,t,k2,k3,k4⟩:=h.aR id _ bm;rw[k1] at k2;simp only[b3w,b0L,b2J,b1b] at k2;subst k2;have hlen:=h1.length;have hll:=k4.length;have c9:=yW (c:=c) hE hT (o:=off) (x:=x) k3 (by omega) h2 (by omega);refine⟨_,c9,?_⟩;have Kk:ai.sl { s with aR:=(id, .box (cs.take off++(new++cs.drop (off+new.length))))::cf id s.aR }=s.sl:=rfl;have cY:ai.ah { s with aR:=(id, .box (cs.take off++(new++cs.drop (off+new.length))))::cf id s.aR }=λ i=>if i=id then some (.box (cs.take off++(new++cs.drop (off+new.length)))) else s.ah i:=by
  funext i;show ah (_::cf id s.aR) i=_;rw[eK,gq];by_cases hi:i=id
  .simp[hi]
  .simp[hi];rfl
 unfold Inv;rw[Kk,cY];have cI:∀ k,St c G.S k->(w.setRow b (l.take off++x.cells.toList++l.drop (off+τ.size)).toArray).heap[k]?=w.heap[k]?:=λ k hk=>ru w k3 k λ e=>by
  subst e;obtain⟨q1,q2,q3⟩:=h.place id _ k bm (by rw[k1];rfl);rcases hk with hk|hk
  .exact q2 hk
  .exact q1.elim (λ q=>by omega) hk.2.1
 have gV:∀ j,gw (s.ah j) ((λ i=>if i=id then some (aG.box (cs.take off++(new++cs.drop (off+new.length)))) else s.ah i) j):=λ j=>by
  by_cases hj:j=id
  .subst hj;simp only[b2D];exact⟨λ _=>rfl,(λ e τ xs hh=>by rw[bm] at hh;cases hh),(λ hh=>by rw[bm] at hh;cases hh),λ hh=>by rw[bm] at hh;cases hh⟩
  .simp only[b0Y hj];exact gw.refl _
 refine bH.Zc h id _ _ b bm (by rw[k1];rfl) ⟨λ _=>rfl,(λ e τ xs hh=>by cases hh),(λ hh=>by cases hh),λ hh=>by cases hh⟩ rfl (λ k hk=>ru w k3 k hk) rfl rfl rfl (by simp[World.setRow]) ?_;refine⟨b,_,t,k1,b4I w b _ _ t _ k3,?_⟩;have key:bf (C1 c G s.ah w) (cs.take off++(new++cs.drop (off+new.length))) (l.take off++x.cells.toList++l.drop (off+τ.size)):=by
  rw[b1P,<-h3];exact bf.append (k4.take off) (bf.append h1 (k4.drop _))
 exact key.imp λ u y _ hy=>hy.mono (λ j _=>⟨gV j,rfl⟩) (λ _ h=>h) cI
theorem Vt(cur dm:List Value)(o sz N:Nat)(hv:dm.length=sz)(hN:o+sz<=N)(hc:N<=cur.length) :
  (cur.take o++dm++cur.drop (o+sz)).take N=(cur.take N).take o++dm++(cur.take N).drop (o+sz):=by
 have h1:(cur.take o++dm).length=o+sz:=by simp[hv];omega
 rw[b4j,h1,b1v (by omega),List.take_take,Nat.min_eq_left (by omega),List.drop_take]
theorem gL.a7A{S:Nat->Prop}{n:Nat}{d':D}{c':List Value}(hd:Rd w S d' c')(CI:c'.length=n):∀ (ds:List D) {l:List Value} (i:Nat),gL w S ds l->(∀ d∈ds,d.size=n)->i<ds.length->gL w S (ds.set i d') (l.take (i * n)++c'++l.drop (i * n+n))
 | [],l,i,_,_,hi=>by simp at hi
 | e::ds,l,0,h,hn,_=>by
  obtain⟨c1,r,rfl,h2,h3⟩:=h;have hc:c1.length=n:=by rw[Rd.length _ h2];exact hn _ (by simp)
  refine⟨c',r,?_,hd,h3⟩;simp only[b3K,b1V,b1F,b2W];rw[<-hc,b2Z]
 | e::ds,l,i+1,h,hn,hi=>by
  obtain⟨c1,r,rfl,h2,h3⟩:=h;have hc:c1.length=n:=by rw[Rd.length _ h2];exact hn _ (by simp)
  refine⟨c1,r.take (i * n)++c'++r.drop (i * n+n),?_,h2,gL.a7A hd CI ds i h3 (λ d hd=>hn d (by simp[hd])) (by simpa using hi)⟩;have e1:(i+1) * n=c1.length+i * n:=by rw[Nat.add_mul,hc];omega
  rw[e1,b4j,b1v (by omega),show c1.length+i * n - c1.length=i * n by omega,b3H,List.drop_append,b2U (by omega),b1F,
   show c1.length+(i * n+n) - c1.length=i * n+n by omega]
  simp
theorem Inv.a3X(hE:bU c.P c.E)(h:Inv c G s a w){T:TypeId}{τ:Ty}{bt e:Nat}(hT:ah c.E.ty T=some (τ,bt,e)){id i:Nat}{e':TypeId}{xs:List τ.den}{v:AV}{y:τ.den}{x p:Value}(bm:s.ah id=some (.row e' τ xs))
  (hp:VR c G s.ah w (.gp id i 0) p) (hx:VR c G s.ah w v x) (hy:GJ (λ _=>none) τ v=some y) :
  ∃ w',(Instr.storeAt T p x).run c.P w = .ok () w'/\Inv c G { s with aR:=(id, .row e' τ (xs.set i y))::cf id s.aR } a w':=by
 obtain⟨b,n,cap,e1,W9,W8,k1,k2,k3,rfl⟩:=hp;rw[bm] at k2;simp only[b0L,aG.row.injEq] at k2;obtain⟨rfl,rfl,k2⟩:=k2;have k2:=b4p k2;subst k2;have hr:=(NF hy hx).cells;have xQ:x.cells.toList.length=τ.size:=by
  have:=Rd.length _ hr;rwa [show TV.bc ⟨τ,y⟩=τ.bc y from rfl,Ty.dn] at this
 have Ie:∀ u∈x.cells.toList,u.oneCell'=true:=Rd.wi (x:=y) hr;obtain⟨l,m1,m2,m3⟩:=h.aR id _ bm;have dh:∀ d∈xs.map τ.bc,d.size=τ.size:=by
  intro d hd;obtain⟨z,_,rfl⟩:=b0S.1 hd;exact Ty.dn τ z
 have hll:=gL.length _ m2 dh;simp only[b1o] at hll;have DU:i * τ.size+τ.size<=xs.length * τ.size:=by
  have:=b2P τ.size (show i+1<=xs.length by omega);rw[b2a] at this;omega
 rcases m1.2 with ⟨hv,_⟩|⟨g,Xn,cur,hv,_,hh,SW,hcm,oR,htk⟩
 .rw[k1] at hv;cases hv
 .rw[k1] at hv;simp only[b2w,b0L,b2J,b1b] at hv;obtain⟨rfl,rfl,rfl⟩:=hv;have E9:xs.length * τ.size<=cur.toList.length:=by
   rw[b1S (xs:=cur),oR];exact b2P _ SW
  have c9:=yW (c:=c) (l:=cur.toList) hE hT (o:=i * τ.size+0) (x:=x) (by simpa using hh) xQ Ie (by omega);refine⟨_,c9,?_⟩;have cY:ai.ah { s with aR:=(id, .row e' τ (xs.set i y))::cf id s.aR }=λ j=>if j=id then some (.row e' τ (xs.set i y)) else s.ah j:=by
   funext j;show ah (_::cf id s.aR) j=_;rw[eK,gq];by_cases hj:j=id
   .simp[hj]
   .simp[hj];rfl
  unfold Inv;rw[cY];refine bH.Zc h id _ _ b bm (by rw[k1];rfl) ⟨λ hh=>(by cases hh),λ e2 pL rJ hh=>?_,(λ hh=>by cases hh),λ hh=>by cases hh⟩ rfl (λ k hk=>ru w hh k hk) rfl rfl rfl (by simp[World.setRow]) ?_
  .simp only[b0L,aG.row.injEq] at hh;obtain⟨rfl,rfl,hh⟩:=hh;have hh:=b4p hh;subst hh;exact⟨_,_,rfl,by simp⟩
  .refine⟨(l.take (i * τ.size)++x.cells.toList++l.drop (i * τ.size+τ.size)),⟨?_, .inr ⟨b,cap,_,by simpa using k1,Nat.zero_le _,setRow_heap w b cur _ e' _ hh,by simpa using SW,hcm,?_,?_⟩⟩,?_,by simpa using m3⟩
   .rw[b2k,b1l,b1l,b1C,b1Y,xQ,hll];omega
   .rw[List.size_toArray,b1l,b1l,b1C,b1Y,xQ,<-oR,<-b1S (xs:=cur)];omega
   .simp only[b2I,b2k];rw[Vt _ _ _ _ _ xQ DU E9,htk]
   .rw[List.map_set];have:=gL.a7A hr (by rw[xQ]) _ i m2 dh (by simpa using k3);refine gL.bd (λ _ h=>h) (λ k hk=>ru w hh k λ e=>?_) _ this;subst e;exact (h.place id _ k bm (by rw[k1];rfl)).2.1 hk
theorem Inv.TP(hE:bU c.P c.E)(h:Inv c G s a w){T:TypeId}{κ ε:Ty}(hT:ah c.E.mty T=some (κ,ε)){id:Nat}{f:κ.den->Option ε.den}{n:Nat}(bm:s.ah id=some (.map ⟨κ,ε,f,n⟩))
  {k:κ.den} {x:ε.den} {p y z:Value} (hp:VR c G s.ah w (.mp id) p) (hy:gM w G.S ⟨κ,k⟩ y) (hz:gM w G.S ⟨ε,x⟩ z) (hn:n<1000000000) :
  ∃ w',(Instr.mapUpdate T p y z).run c.P w = .ok () w'/\Inv c G { s with aR:=(id, .map ⟨κ,ε,Lj f k x,Sq (f k) n⟩)::cf id s.aR } a w':=by
 obtain⟨kT,eT,u1,u2,u3,u4,_⟩:=hE.map hT w;obtain⟨b,es,clock,k1,k2,k3⟩:=h.aR id _ bm;have sc:∀ {τ:Ty} {q:τ.den} {v:Value},τ.key=true->gM w G.S ⟨τ,q⟩ v->yJ τ q v:=λ {τ q v} hs hv=>by
  refine yJ.of (w:=w) (S:=G.S) hs ?_;cases τ with
  | int _=>exact hv
  | bool=>exact hv
  | str=>exact hv
  | _=>cases hs
 obtain⟨es',TH,m1,m2⟩:=k3.store (P:=c.P) u1 u2 k2 (sc u3 hy) (sc u4 hz) hn;obtain⟨hp1,_⟩:=hp;refine⟨_,by rw[hp1,k1];exact m1,?_⟩;have cY:ai.ah { s with aR:=(id, .map ⟨κ,ε,Lj f k x,Sq (f k) n⟩)::cf id s.aR }=λ i=>if i=id then some (.map ⟨κ,ε,Lj f k x,Sq (f k) n⟩) else s.ah i:=by
  funext i;show ah ((id,_)::cf id s.aR) i=_;rw[eK,gq];by_cases hi:i=id
  .simp[hi]
  .simp[hi];rfl
 unfold Inv;rw[cY];obtain⟨q1,q2⟩:=MapKept.heap_set (o' := .map es' TH) k2;refine bH.Zc h id _ _ b bm (by rw[k1];rfl) ⟨λ hh=>(by cases hh),(λ e τ xs hh=>by cases hh),(λ hh=>by cases hh),λ _=>rfl⟩ rfl q2 rfl rfl rfl (by simp) ?_;exact⟨b,es',TH,k1,q1,m2⟩
theorem Inv.append(hE:bU c.P c.E)(h:Inv c G s a w){T:TypeId}{τ:Ty}{bt e id d:Nat}(hT:ah c.E.ty T=some (.slice τ,bt,e)){xs ys:List τ.den}{y:AV}{v z:Value}(bm:s.ah id=some (.row e τ xs))
  (hv:VR c G s.ah w (.row id) v) (hz:VR c G s.ah w y z) (hy:oD (O3 s.ah) (.slice τ) y=some ys) (Fb:bF (xs.length+ys.length) bt) (ty:TypeId) :
  ∃ v' w' G',(Builtin.append_ #[T,T] ty #[v,z]).run c.P w = .ok v' w' /\
   Inv c G' { aE:=(s.cF id).aE.set d (.row id),aR:=(id, .row e τ (xs++ys))::cf id (s.cF id).aR } (a.put (some d) v') w':=by
 obtain⟨rfl,_,_⟩:=hv;have hzc:C1 c G s.ah w y z:=by
  refine hz.Yf ?_;cases y with
  | aT u =>
   have e:=TV.bj hy;subst e;rfl
  | nil=>rfl
  | row i=>rfl
  | aD i=>rfl
  | _=>cases hy
 obtain⟨l,m1,m2,m3⟩:=h.aR id _ bm;obtain⟨v',w',news,k1,k2,k3,k4,k5,k6⟩:=R1 (w:=w) (base:=0) hE hT m1 (b2b _) (a2l h.aR (IJ λ _ _ h=>h) a0t hy hzc) Fb ty;have SZ:=wj m1;have a7u:=wj k2;obtain⟨h1,h2,h3⟩:=h.clear id;have gO:∀ b,gi (G.η id)=some b->(c.w0.heap.size<=b\/c.X b)/\¬ G.S b/\b<w.heap.size:=λ b hb=>h.place id _ b bm hb;have hw:∀ b,b<w.heap.size->gi (G.η id)≠some b->w'.heap[b]?=w.heap[b]?:=λ b hb gU=>k3.block b hb (by rw[SZ];exact λ e=>gU e.symm);have cI:∀ b,St c G.S b->w'.heap[b]?=w.heap[b]?:=λ b hb=>by
  refine hw b ?_ λ e=>?_
  .rcases hb with hb|hb
   .exact h.eV b hb
   .exact b1c hb.1 h.bd.size
  .obtain⟨q1,q2,q3⟩:=gO b e;rcases hb with hb|hb
   .exact q2 hb
   .exact q1.elim (λ q=>by omega) hb.2.1
 have a9O:∀ j τ xs b,s.ah j=some (.aD τ xs)->b∈G.φ j->w'.heap[b]?=w.heap[b]?:=λ j τ xs b hj hb =>
  hw b (h.aW.pl j τ xs b hj hb).2.2.1 ((h.aW.pl j τ xs b hj hb).2.2.2 id _ bm)
 have DW:∀ j o b,j≠id->s.ah j=some o->gi (G.η j)=some b->w'.heap[b]?=w.heap[b]?:=λ j o b hj ho hb=>by
  refine hw b (h.place j o b ho hb).2.2 λ e=>?_;exact hj (h.apart j id o _ b ho bm hb e)
 have h4:bH c ⟨G.S,G.η,G.φ⟩ (s.cF id).sl s.aE.length (λ i=>if i=id then none else (s.cF id).ah i) a w':=by
  refine h1.world (S':=G.S) ⟨k3.os,k3.tape,k3.output,k3.size,λ b hb hx=>hw b hb λ e=>hx (gO b e).1⟩ (λ _ h=>h) (λ _ _=>b2L) h1.sX (λ b hb=>b1c (h1.eV b hb) k3.size) cI ?_ (λ j τ xs b hj hb=>by
   by_cases xP:j=id
   .simp[xP] at hj
   .rw[b0Y xP,fN] at hj;exact a9O j τ xs b (oh hj) hb)
  intro j o b hj hb;by_cases xP:j=id
  .simp[xP] at hj
  .rw[b0Y xP,fN] at hj;simp only[b1M] at hj;obtain⟨o',dj,_⟩:=hj;exact DW j o' b xP dj hb
 have a8h:((xs++ys).length)=xs.length+ys.length:=by simp
 have h5:=bH.newObj h4 id (.row e τ (xs++ys)) v' (by simp) h2 (λ i p yP=>by
  by_cases hi:i=id
  .simp[hi] at yP
  .rw[if_neg hi] at yP;exact h3 i p yP) rfl ⟨l++news,by simpa using k2,by
    rw[b2G];exact gL.append _ _ (gL.bd (λ _ h=>h) (λ b hb=>cI b (.inl hb)) _ m2) (gL.bd (λ _ h=>h) (λ b hb=>cI b (.inl hb)) _ k5),by rw[a8h];exact k6⟩ rfl (.inl rfl) (λ b hb=>by
  have bX:=(k2.lt b (a7u.trans hb)).2;have zN:gi (G.η id)=some b\/b=w.heap.size:=by
   rw[<-a7u,] at hb;rcases k4 with q|q
   .left;rw[<-SZ,<-q];exact hb
   .right;rw[q] at hb;exact (b3y hb).symm
  refine⟨?_,?_,bX,λ j p hjp SV=>?_,λ j pL rJ OL SV=>?_⟩
  .rcases zN with q|q
   .exact (gO b q).1
   .have:=h.bd.size;omega
  .rcases zN with q|q
   .exact (gO b q).2.1
   .intro hs;have:=h.eV b hs;omega
  .by_cases xP:j=id
   .simp[xP] at hjp
   .rw[b0Y xP,fN] at hjp;simp only[b1M] at hjp;obtain⟨o',dj,_⟩:=hjp;rcases zN with q|q
    .exact xP (h.apart j id o' _ b dj bm SV q)
    .have:=(h.place j o' b dj SV).2.2;omega
  .by_cases xP:j=id
   .simp[xP] at OL
   .rw[b0Y xP,fN] at OL;obtain⟨_,_,q3,q4⟩:=h.aW.pl j pL rJ b (oh OL) SV;rcases zN with q|q
    .exact q4 id _ bm q
    .omega)
 refine⟨v',w',⟨G.S,λ i=>if i=id then v' else G.η i,G.φ⟩,k1,?_⟩;unfold Inv;have cY:ai.ah { aE:=(s.cF id).aE.set d (.row id),aR:=(id, .row e τ (xs++ys))::cf id (s.cF id).aR }=λ i=>if i=id then some (.row e τ (xs++ys)) else (if i=id then none else (s.cF id).ah i):=by
  funext i;show ah (_::cf id (s.cF id).aR) i=_;rw[eK,gq];rfl
 have Kk:ai.sl { aE:=(s.cF id).aE.set d (.row id),aR:=(id, .row e τ (xs++ys))::cf id (s.cF id).aR }=oK s.aE.length (s.cF id).sl (some d) (.row id):=by
  have:=vl (s.cF id).aE d (.row id) ((id, .row e τ (xs++ys))::cf id (s.cF id).aR);rw[show (s.cF id).aE.length=s.aE.length from by simp[ai.cF]] at this;exact this
 rw[Kk,cY,show ({ aE:=(s.cF id).aE.set d (.row id),aR:=(id, .row e τ (xs++ys))::cf id (s.cF id).aR }:ai).aE.length=s.aE.length from by simp[ai.cF]];refine bH.put h5 ⟨by simp,by simp[isRow],?_⟩;rcases k2.2 with ⟨rfl,_⟩|⟨g,cap,cur,rfl,_⟩
 .exact⟨_,_,_,rfl⟩
 .exact⟨_,_,_,rfl⟩
end
section
variable {c:Ctx} {G:Gh} {sl:Nat->AV} {n:Nat} {lk:Nat->Option aG} {a:Act} {w w':World}
theorem bH.VL(h:bH c G sl n lk a w)(id:Nat)(τ:Ty)(xs:List τ.den)(η0:Value)(fp:List Nat)(bm:lk id=none)(hs:∀ i,(sl i).refs id=false)(ho:∀ i o,lk i=some o->o.refs id=false)
  (a9m:c.R id=none) (hT:l6 w η0 τ xs fp) (dt:fp.Nodup) (hpl:∀ b∈fp,(c.w0.heap.size<=b\/c.X b)/\¬ G.S b/\b<w.heap.size/\(∀ i o,lk i=some o->gi (G.η i)≠some b)/\∀ j τ xs,lk j=some (.aD τ xs)->b∉G.φ j) :
  bH c ⟨G.S,λ i=>if i=id then η0 else G.η i,λ i=>if i=id then fp else G.φ i⟩ sl n (λ i=>if i=id then some (.aD τ xs) else lk i) a w:=by
 have gV:∀ j,j≠id->gw (lk j) ((λ i=>if i=id then some (aG.aD τ xs) else lk i) j)/\(if j=id then η0 else G.η j)=G.η j:=λ j hj=>by simp only[b0Y hj];exact⟨gw.refl _,af⟩
 have OF:gi η0=none:=by
  obtain⟨v,l,_,_,h1,_⟩:=hT;rw[h1];rfl
 have nG:∀ i b,gi (if i=id then η0 else G.η i)=some b->i≠id/\gi (G.η i)=some b:=λ i b hb=>by
  by_cases hi:i=id
  .rw[b1q hi,OF] at hb;cases hb
  .rw[b0Y hi] at hb;exact⟨hi,hb⟩
 have hold:∀ j bw dw,(if j=id then some (aG.aD τ xs) else lk j)=some (.aD bw dw)->j≠id->lk j=some (.aD bw dw):=λ j bw dw k hj=>by rwa [b0Y hj] at k
 exact {
  defers:=h.defers,size:=h.size,bd:=h.bd,oB:=h.oB,gh:=h.gh,sX:=h.sX,eV:=h.eV
  aE:=λ i=>(h.aE i).mono (λ j hj=>gV j (λ e=>by subst e;rw[hs i] at hj;cases hj)) (λ _ h=>h) (λ _ _=>rfl)
  aR:=λ i o' cU=>by
   by_cases hi:i=id
   .subst hi;simp only[b2D,b0L] at cU;subst cU;trivial
   .simp only[b0Y hi] at cU;exact (h.aR i o' cU).mono (by simp only[b0Y hi]) (λ _ _=>rfl) (λ j hj=>gV j (λ e=>by subst e;rw[ho i o' cU] at hj;cases hj)) (λ _ h=>h) (λ _ _=>rfl)
  place:=λ i o' b cU hb=>by
   obtain⟨hi,hb⟩:=nG i b hb;simp only[b0Y hi] at cU;exact h.place i o' b cU hb
  apart:=λ i j o1 o2 b cU Mv hb cO=>by
   obtain⟨hi,hb⟩:=nG i b hb;obtain⟨hj,cO⟩:=nG j b cO;simp only[b0Y hi] at cU;simp only[b0Y hj] at Mv;exact h.apart i j o1 o2 b cU Mv hb cO
  aW:={
   tr:=λ j bw dw k=>by
    by_cases hj:j=id
    .subst hj;simp only[b2D,b0L,aG.aD.injEq] at k ⊢;obtain⟨rfl,k⟩:=k;have k:=b4p k;subst k;exact hT
    .simp only[b0Y hj];exact h.aW.tr j bw dw (hold j bw dw k hj)
   nd:=λ j bw dw k=>by
    by_cases hj:j=id
    .simp only[b1q hj];exact dt
    .simp only[b0Y hj];exact h.aW.nd j bw dw (hold j bw dw k hj)
   pl:=λ j bw dw b k hb=>by
    have fin:(∀ i o,lk i=some o->gi (G.η i)≠some b)->∀ i o,(if i=id then some (aG.aD τ xs) else lk i)=some o->gi (if i=id then η0 else G.η i)≠some b:=λ hh i o cU e=>by
     obtain⟨hi,e⟩:=nG i b e;rw[b0Y hi] at cU;exact hh i o cU e
    by_cases hj:j=id
    .simp only[b1q hj] at hb;obtain⟨q1,q2,q3,q4,q5⟩:=hpl b hb;exact⟨q1,q2,q3,fin q4⟩
    .simp only[b0Y hj] at hb;obtain⟨q1,q2,q3,q4⟩:=h.aW.pl j bw dw b (hold j bw dw k hj) hb;exact⟨q1,q2,q3,fin q4⟩
   ap:=λ j j' W9 pL W8 rJ b k k' hb cO=>by
    by_cases hj:j=id
    .by_cases Ic:j'=id
     .rw[hj,Ic]
     .simp only[b1q hj] at hb;simp only[b0Y Ic] at cO;exact absurd cO ((hpl b hb).2.2.2.2 j' pL rJ (hold j' pL rJ k' Ic))
    .by_cases Ic:j'=id
     .simp only[b0Y hj] at hb;simp only[b1q Ic] at cO;exact absurd hb ((hpl b cO).2.2.2.2 j W9 W8 (hold j W9 W8 k hj))
     .simp only[b0Y hj] at hb;simp only[b0Y Ic] at cO;exact h.aW.ap j j' W9 pL W8 rJ b (hold j W9 W8 k hj) (hold j' pL rJ k' Ic) hb cO }
  root:=λ j v hr ht=>by
   have gU:j≠id:=λ e=>by subst e;rw[a9m] at hr;cases hr
   simp only[b0Y gU] at ht ⊢;exact h.root j v hr ht
  mG:=h.mG
  ep:=λ j v hr ht=>by
   by_cases hj:j=id
   .simp only[b1q hj] at ht;cases ht
   .simp only[b0Y hj] at ht ⊢;exact h.ep j v hr ht
  hH:=h.hH }
def yF(c:Ctx)(G:Gh)(lk:Nat->Option aG)(w:World)(b:Nat):Prop :=
 (c.w0.heap.size<=b\/c.X b)/\¬ G.S b/\b<w.heap.size/\(∀ i o,lk i=some o->gi (G.η i)≠some b)/\∀ j τ xs,lk j=some (.aD τ xs)->b∉G.φ j
structure KL(c:Ctx)(G:Gh)(lk lk':Nat->Option aG)(w w':World)(vn:Nat->Value)(tF:Nat->List Nat)(I:Nat->Prop):Prop where
 same:∀ id,¬ I id->lk' id=lk id/\vn id=G.η id/\tF id=G.φ id
 aD:∀ id,I id->∃ τ xs dw v l l',lk id=some (.aD τ xs)/\lk' id=some (.aD τ dw)/\G.η id = .tuple (v::l).toArray/\vn id = .tuple (v::l').toArray/\l6 w' (vn id) τ dw (tF id)/\(tF id).Nodup
 a7h:∀ id b,I id->b∈tF id->(∃ er,I er/\b∈G.φ er)\/yF c G lk w' b
 apart:∀ id er b,I id->I er->b∈tF id->b∈tF er->id=er
 heap:∀ b,b<w.heap.size->(∀ id,I id->b∉G.φ id)->w'.heap[b]?=w.heap[b]?
 os:w'.os=w.os
 tape:w'.tape=w.tape
 output:w'.output=w.output
 size:w.heap.size<=w'.heap.size
theorem yF.grow{lk:Nat->Option aG}{b:Nat}(h:yF c G lk w b)(hs:w.heap.size<=w'.heap.size):yF c G lk w' b :=
 ⟨h.1,h.2.1,b1c h.2.2.1 hs,h.2.2.2⟩
theorem KL.a8A{vn:Nat->Value}{tF:Nat->List Nat}{I:Nat->Prop}{lk':Nat->Option aG}(t:KL c G lk lk' w w' vn tF I)(id:Nat):gw (lk id) (lk' id):=by
 by_cases hi:I id
 .obtain⟨τ,xs,dw,_,_,_,h1,h2,_⟩:=t.aD id hi;rw[h1,h2];exact⟨λ h=>(by cases h),(λ e τ xs h=>by cases h),(λ _=>rfl),λ hh=>by cases hh⟩
 .rw[(t.same id hi).1];exact gw.refl _
theorem C1.ib{vn:Nat->Value}{tF:Nat->List Nat}{I:Nat->Prop}{lk':Nat->Option aG}(t:KL c G lk lk' w w' vn tF I)(cI:∀ b,St c G.S b->w'.heap[b]?=w.heap[b]?){u:AV}{x:Value}(hu:u.PC=false)(h:C1 c G lk w u x):C1 c ⟨G.S,vn,tF⟩ lk' w' u x:=by
 have key:(∀ id,u.refs id=true->¬ I id)->C1 c ⟨G.S,vn,tF⟩ lk' w' u x:=λ hk=>h.mono (λ id bm=>⟨t.a8A id,(t.same id (hk id bm)).2.1⟩) (λ _ h=>h) cI;have noT:∀ id,cN (lk id)=false->¬ I id:=λ id hn hi=>by
  obtain⟨τ,xs,_,_,_,_,h1,_⟩:=t.aD id hi;rw[h1] at hn;cases hn
 cases u with
 | aD id =>
  obtain⟨h1,l,h2,h3⟩:=h;by_cases hi:I id
  .obtain⟨τ,xs,dw,v,l0,l',k1,k2,k3,k4,_⟩:=t.aD id hi;rw[k3] at h2;simp only[b2r,b4k,b0T] at h2;obtain⟨rfl,_⟩:=h2;exact⟨by rw[k2];rfl,l',k4,h3⟩
  .exact key λ j hj=>by
    have:=b0P (show Nat.beq id j=true from hj);subst this;exact hi
 | gQ id i off sz =>
  obtain⟨h1,b,n,cap,l,h2,h3⟩:=h;by_cases hi:I id
  .obtain⟨τ,xs,dw,v,l0,l',k1,k2,k3,k4,_⟩:=t.aD id hi;rw[k3] at h2;simp only[b2r,b4k,b0T] at h2;obtain⟨rfl,_⟩:=h2;exact⟨by rw[k2];rfl,b,n,cap,l',k4,h3⟩
  .exact key λ j hj=>by
    have:=b0P (show Nat.beq id j=true from hj);subst this;exact hi
 | sub id i off sz=>cases hu
 | ptr id off =>
  refine key λ j hj=>?_;have:=b0P (show Nat.beq id j=true from hj);subst this;obtain⟨_,_,_,h3⟩:=h;exact noT id (by match hl:lk id,h3 with|some (.box _),_=>rfl)
 | row id =>
  refine key λ j hj=>?_;have:=b0P (show Nat.beq id j=true from hj);subst this;exact noT id (wJ h.2.1)
 | gp id i off =>
  refine key λ j hj=>?_;have:=b0P (show Nat.beq id j=true from hj);subst this;obtain⟨_,_,_,_,_,_,_,h3,_⟩:=h;exact noT id (by rw[h3];rfl)
 | mp id =>
  refine key λ j hj=>?_;have:=b0P (show Nat.beq id j=true from hj);subst this;exact noT id (Li h.2.1)
 | agg cs=>exact h.elim
 | mI cs=>exact h.elim
 | dO f cs=>exact h.elim
 | _=>exact key λ j hj=>by cases hj
theorem tB:∀ {cs:List AV} {v:AV},AV.tA cs=false->v∈cs->v.PC=false
 | u::r,v,h,hm=>by
  simp only[AV.tA] at h;split at h
  .cases h
  .rename_i hu;rcases b1e.1 hm with rfl|hm
   .exact hu
   .exact tB h hm
theorem CR.ib{vn:Nat->Value}{tF:Nat->List Nat}{I:Nat->Prop}{lk':Nat->Option aG}(t:KL c G lk lk' w w' vn tF I)(cI:∀ b,St c G.S b->w'.heap[b]?=w.heap[b]?){u:AV}{x:Value}(hu:u.PC=false)(h:CR c G lk w u x):CR c ⟨G.S,vn,tF⟩ lk' w' u x:=by
 cases u with
 | aT v=>exact gM.mono (G:=G) (G':=⟨G.S,vn,tF⟩) h (λ _ h=>h) (λ b hb=>cI b (.inl hb))
 | agg cs =>
  obtain⟨l,h1,h2⟩:=h;exact⟨l,h1,h2.imp λ u y hm hy=>hy.ib t cI (tB (show AV.tA cs=false from hu) hm)⟩
 | _=>exact C1.a0O (C1.ib t cI hu h)
theorem VR.ib{vn:Nat->Value}{tF:Nat->List Nat}{I:Nat->Prop}{lk':Nat->Option aG}(t:KL c G lk lk' w w' vn tF I)(cI:∀ b,St c G.S b->w'.heap[b]?=w.heap[b]?){u:AV}{x:Value}(hu:u.PC=false)(h:VR c G lk w u x):VR c ⟨G.S,vn,tF⟩ lk' w' u x:=by
 cases u with
 | aT v=>exact gM.mono (G:=G) (G':=⟨G.S,vn,tF⟩) h (λ _ h=>h) (λ b hb=>cI b (.inl hb))
 | agg cs =>
  obtain⟨l,h1,h2⟩:=h;exact⟨l,h1,h2.imp λ u y hm hy=>hy.ib t cI (tB (show AV.tA cs=false from hu) hm)⟩
 | mI vs =>
  obtain⟨l,h1,h2⟩:=h;refine⟨l,h1,h2.imp λ u y hm hy=>?_⟩;have hu':=tB (show AV.tA vs=false from hu) hm;cases u with
  | any=>trivial
  | aT v=>exact gM.mono (G:=G) (G':=⟨G.S,vn,tF⟩) hy (λ _ h=>h) (λ b hb=>cI b (.inl hb))
  | aD i=>exact C1.ib (u := .aD i) t cI rfl hy
  | dH v=>exact C1.ib (u := .dH v) t cI rfl hy
  | agg cs =>
   obtain⟨l,h1,h2⟩:=hy;exact⟨l,h1,h2.imp λ u y hm hy=>hy.ib t cI (tB (show AV.tA cs=false from hu') hm)⟩
  | _=>exact hy.elim
 | any=>trivial
 | fO=>exact h
 | nil=>exact (C1.ib (u := .nil) t cI hu h).jS
 | dH u=>exact (C1.ib (u := .dH u) t cI hu h).jS
 | ptr i o=>exact (C1.ib (u := .ptr i o) t cI hu h).jS
 | row i=>exact (C1.ib (u := .row i) t cI hu h).jS
 | gp i k o=>exact (C1.ib (u := .gp i k o) t cI hu h).jS
 | fn f=>exact (C1.ib (u := .fn f) t cI hu h).jS
 | aD i=>exact (C1.ib (u := .aD i) t cI hu h).jS
 | sub i k o z=>cases hu
 | mp i=>exact (C1.ib (u := .mp i) t cI hu h).jS
 | gQ i k o z=>exact (C1.ib (u := .gQ i k o z) t cI hu h).jS
 | me v=>exact (C1.ib (u := .me v) t cI hu h).jS
 | dO f cs =>
  obtain⟨l,h1,h2⟩:=h;exact⟨l,h1,h2.imp λ u y hm hy=>hy.ib t cI (tB (show AV.tA cs=false from hu) hm)⟩
theorem bH.ib(h:bH c G sl n lk a w){vn:Nat->Value}{tF:Nat->List Nat}{I:Nat->Prop}{lk':Nat->Option aG}(t:KL c G lk lk' w w' vn tF I)(hs:∀ i,(sl i).PC=false)(U1:∀ id cs,lk id=some (.box cs)->AV.tA cs=false) :
  bH c ⟨G.S,vn,tF⟩ sl n lk' a w':=by
 have pl:∀ id b,I id->b∈G.φ id->(c.w0.heap.size<=b\/c.X b)/\¬ G.S b/\b<w.heap.size/\∀ i o,lk i=some o->gi (G.η i)≠some b:=λ id b hi hb=>by
  obtain⟨τ,xs,_,_,_,_,h1,_⟩:=t.aD id hi;exact h.aW.pl id τ xs b h1 hb
 have a2G:∀ b,b<w.heap.size->((c.w0.heap.size<=b\/c.X b)->False)->w'.heap[b]?=w.heap[b]?:=λ b hb hn=>t.heap b hb λ id hi mh=>hn (pl id b hi mh).1;have cI:∀ b,St c G.S b->w'.heap[b]?=w.heap[b]?:=λ b hb=>by
  rcases hb with hb|hb
  .exact t.heap b (h.eV b hb) λ id hi mh=>(pl id b hi mh).2.1 hb
  .exact a2G b (b1c hb.1 h.bd.size) λ hn=>hn.elim (λ q=>by omega) hb.2.1
 have nG:∀ id o b,lk id=some o->gi (G.η id)=some b->w'.heap[b]?=w.heap[b]?:=λ id o b ho hb =>
  t.heap b (h.place id o b ho hb).2.2 λ j hj mh=>(pl j b hj mh).2.2.2 id o ho hb
 have gH:∀ id b,gi (vn id)=some b->¬ I id/\gi (G.η id)=some b:=λ id b hb=>by
  by_cases hi:I id
  .obtain⟨_,_,_,_,_,_,_,_,_,h4,_⟩:=t.aD id hi;rw[h4] at hb;cases hb
  .rw[(t.same id hi).2.1] at hb;exact⟨hi,hb⟩
 have tl:∀ id τ xs b,lk' id=some (.aD τ xs)->b∈tF id->(∃ er bw dw,lk er=some (.aD bw dw)/\b∈G.φ er/\(¬ I id->er=id)/\(I id->I er))\/(I id/\yF c G lk w' b):=λ id τ xs b bm hb=>by
  by_cases hi:I id
  .rcases t.a7h id b hi hb with ⟨er,rW,cO⟩|YS
   .obtain⟨bw,dw,_,_,_,_,h1,_⟩:=t.aD er rW;exact .inl ⟨er,bw,dw,h1,cO,λ hn=>absurd hi hn,λ _=>rW⟩
   .exact .inr ⟨hi,YS⟩
  .obtain⟨h1,h2,h3⟩:=t.same id hi;rw[h1] at bm;rw[h3] at hb;exact .inl ⟨id,τ,xs,bm,hb,λ _=>rfl,λ rW=>absurd rW hi⟩
 exact {
  defers:=h.defers,size:=h.size
  bd:=h.bd.trans (Y:=λ b=>c.w0.heap.size<=b\/c.X b) ⟨t.os,t.tape,t.output,t.size,λ b hb hn=>a2G b hb hn⟩ λ i hi hy=>hy.elim (λ q=>by omega) id
  oB:=h.oB,gh:=h.gh,sX:=h.sX
  eV:=λ b hb=>b1c (h.eV b hb) t.size
  aE:=λ i=>(h.aE i).ib t cI (hs i)
  aR:=λ id o bm=>by
   by_cases hi:I id
   .obtain⟨τ,xs,dw,_,_,_,_,h2,_⟩:=t.aD id hi;rw[h2] at bm;simp only[b0L] at bm;subst bm;trivial
   .obtain⟨h1,h2,h3⟩:=t.same id hi;rw[h1] at bm;have ho:=h.aR id o bm;cases o with
    | box cs =>
     obtain⟨b,l,ty,k1,k2,k3⟩:=ho;refine⟨b,l,ty,h2.trans k1,?_,k3.imp λ u y hm hy=>hy.ib t cI (tB (U1 id cs bm) hm)⟩;rw[nG id _ b bm (by rw[k1];rfl)];exact k2
    | row e τ xs =>
     obtain⟨l,k1,k2,k3⟩:=ho;refine⟨l,?_,gL.bd (λ _ h=>h) (λ b hb=>cI b (.inl hb)) _ k2,k3⟩;rw[show (⟨G.S,vn,tF⟩:Gh).η id=G.η id from h2];exact Lk k1 λ b hb=>nG id _ b bm hb
    | aD τ xs=>trivial
    | map m =>
     obtain⟨b,es,clock,k1,k2,k3⟩:=ho;exact⟨b,es,clock,h2.trans k1,(nG id _ b bm (by rw[k1];rfl)).trans k2,k3⟩
  place:=λ id o b bm hb=>by
   obtain⟨hi,hb⟩:=gH id b hb;rw[(t.same id hi).1] at bm;obtain⟨q1,q2,q3⟩:=h.place id o b bm hb;exact⟨q1,q2,b1c q3 t.size⟩
  apart:=λ id er o o' b bm Ib hb cO=>by
   obtain⟨hi,hb⟩:=gH id b hb;obtain⟨rW,cO⟩:=gH er b cO;rw[(t.same id hi).1] at bm;rw[(t.same er rW).1] at Ib;exact h.apart id er o o' b bm Ib hb cO
  aW:={
   tr:=λ id τ xs bm=>by
    by_cases hi:I id
    .obtain⟨τ0,xs0,dw,v,l,l',h1,h2,h3,h4,h5,h6⟩:=t.aD id hi;rw[h2] at bm;simp only[b0L,aG.aD.injEq] at bm;obtain⟨rfl,bm⟩:=bm;have bm:=b4p bm;subst bm;exact h5
    .obtain⟨h1,h2,h3⟩:=t.same id hi;rw[h1] at bm;rw[show (⟨G.S,vn,tF⟩:Gh).η id=G.η id from h2,show (⟨G.S,vn,tF⟩:Gh).φ id=G.φ id from h3];exact (h.aW.tr id τ xs bm).bd λ b hb=>t.heap b (h.aW.pl id τ xs b bm hb).2.2.1 λ j hj mh=>by
      obtain⟨bw,dw,_,_,_,_,k1,_⟩:=t.aD j hj;have:=h.aW.ap id j τ bw xs dw b bm k1 hb mh;subst this;exact hi hj
   nd:=λ id τ xs bm=>by
    by_cases hi:I id
    .obtain⟨_,_,_,_,_,_,_,_,_,_,_,h6⟩:=t.aD id hi;exact h6
    .obtain⟨h1,h2,h3⟩:=t.same id hi;rw[h1] at bm;rw[show (⟨G.S,vn,tF⟩:Gh).φ id=G.φ id from h3];exact h.aW.nd id τ xs bm
   pl:=λ id τ xs b bm hb=>by
    have hq:(c.w0.heap.size<=b\/c.X b)/\¬ G.S b/\b<w'.heap.size/\∀ i o,lk i=some o->gi (G.η i)≠some b:=by
     rcases tl id τ xs b bm hb with ⟨er,bw,dw,k1,k2,_⟩|⟨_,f1,f2,f3,f4,_⟩
     .obtain⟨f1,f2,f3,f4⟩:=h.aW.pl er bw dw b k1 k2;exact⟨f1,f2,b1c f3 t.size,f4⟩
     .exact⟨f1,f2,f3,f4⟩
    obtain⟨q1,q2,q3,q4⟩:=hq;refine⟨q1,q2,q3,λ i o cU uC=>?_⟩;obtain⟨hi,uC⟩:=gH i b uC;rw[(t.same i hi).1] at cU;exact q4 i o cU uC
   ap:=λ id er τ bw xs dw b bm Ib hb cO=>by
    by_cases hi:I id
    .by_cases rW:I er
     .exact t.apart id er b hi rW hb cO
     .rcases tl er bw dw b Ib cO with ⟨j',pL,rJ,m1,m2,m3,_⟩|⟨q,_⟩
      .rcases tl id τ xs b bm hb with ⟨j,W9,W8,k1,k2,_,k4⟩|⟨_,YS⟩
       .have:=h.aW.ap j j' _ _ _ _ b k1 m1 k2 m2;have e:=m3 rW;subst e this;exact absurd (k4 hi) rW
       .exact absurd m2 (YS.2.2.2.2 j' pL rJ m1)
      .exact absurd q rW
    .by_cases rW:I er
     .rcases tl id τ xs b bm hb with ⟨j,W9,W8,k1,k2,k3,_⟩|⟨q,_⟩
      .rcases tl er bw dw b Ib cO with ⟨j',pL,rJ,m1,m2,_,m4⟩|⟨_,YS⟩
       .have:=h.aW.ap j j' _ _ _ _ b k1 m1 k2 m2;have e:=k3 hi;subst e this;exact absurd (m4 rW) hi
       .exact absurd k2 (YS.2.2.2.2 j W9 W8 k1)
      .exact absurd q hi
     .rcases tl id τ xs b bm hb with ⟨j,W9,W8,k1,k2,k3,_⟩|⟨q,_⟩
      .rcases tl er bw dw b Ib cO with ⟨j',pL,rJ,m1,m2,m3,_⟩|⟨q,_⟩
       .have:=h.aW.ap j j' _ _ _ _ b k1 m1 k2 m2;exact (k3 hi).symm.trans (this.trans (m3 rW))
       .exact absurd q rW
      .exact absurd q hi }
  root:=λ id v hr ht=>by
   by_cases hi:I id
   .obtain⟨τ,xs,dw,v0,l,l',k1,k2,k3,k4,_⟩:=t.aD id hi;obtain⟨l2,h2⟩:=h.root id v hr (by rw[k1];rfl);rw[k3] at h2;simp only[b2r,b4k,b0T] at h2;obtain⟨rfl,_⟩:=h2;exact⟨l',k4⟩
   .obtain⟨h1,h2,_⟩:=t.same id hi;rw[h1] at ht;rw[show (⟨G.S,vn,tF⟩:Gh).η id=G.η id from h2];exact h.root id v hr ht
  mG:=h.mG
  ep:=λ id v hr ht=>by
   by_cases hi:I id
   .obtain⟨τ,xs,dw,v0,l,l',k1,k2,k3,k4,_⟩:=t.aD id hi;rw[k2] at ht;cases ht
   .obtain⟨h1,h2,_⟩:=t.same id hi;rw[h1] at ht;rw[show (⟨G.S,vn,tF⟩:Gh).η id=G.η id from h2];exact h.ep id v hr ht
  hH:=h.hH }
theorem bH.VP(h:bH c G sl n lk a w){d:Nat}(hd:lk d=none):(∀ i,(sl i).refs d=false)/\∀ i o,lk i=some o->o.refs d=false:=by
 have c1:∀ (v:AV) (x:Value),C1 c G lk w v x->v.refs d=true->False:=λ v x hv hr=>by
  have lH:∀ i,Nat.beq i d=true->jG (lk i)=false/\isRow (lk i)=false/\cN (lk i)=false/\∀ e τ xs,lk i≠some (.row e τ xs):=λ i hi=>by
   have:=b0P hi;subst this;rw[hd];exact⟨rfl,rfl,rfl,λ _ _ _=>by simp⟩
  cases v with
  | ptr i o=>obtain⟨_,_,_,h3⟩:=hv;rw[(lH i hr).1] at h3;cases h3
  | row i=>obtain⟨_,h3,_⟩:=hv;rw[(lH i hr).2.1] at h3;cases h3
  | gp i k o=>obtain⟨_,_,_,_,_,_,_,h3,_⟩:=hv;exact (lH i hr).2.2.2 _ _ _ h3
  | aD i=>have h3:=hv.1;rw[(lH i hr).2.2.1] at h3;cases h3
  | sub i k o z=>have h3:=hv.1;rw[(lH i hr).2.2.1] at h3;cases h3
  | gQ i k o z=>have h3:=hv.1;rw[(lH i hr).2.2.1] at h3;cases h3
  | mp i =>
   have h3:=hv.2.1;have:=b0P (show Nat.beq i d=true from hr);subst this;rw[hd] at h3;cases h3
  | agg cs=>exact hv
  | mI cs=>exact hv
  | dO f cs=>exact hv
  | _=>cases hr
 have cL:∀ (cs:List AV) (l:List Value),bf (C1 c G lk w) cs l->AV.jJ d cs=true->False:=by
  intro cs;induction cs with
  | nil=>intro l _ hr;cases hr
  | cons v r ih =>
   intro l hl hr;match l,hl with
   | x::l,hl =>
    simp only[AV.jJ] at hr;split at hr
    .rename_i hv;exact c1 v x hl.1 hv
    .exact ih l hl.2 hr
 refine⟨λ i=>?_,λ i o ho=>?_⟩
 .cases hr:(
        sl i).refs d with
  | false=>rfl
  | true =>
   have hv:=h.aE i;revert hv hr;generalize a.tmps.getD i undef=x;cases sl i with
   | aT u=>intro hr;cases hr
   | agg cs =>
    intro hr hv;obtain⟨l,_,hl⟩:=hv;exact (cL cs l hl hr).elim
   | mI vs =>
    intro hr hv;obtain⟨l,_,hl⟩:=hv;have:∀ (
         vs:List AV) (l:List Value),bf (TR c G lk w) vs l->AV.jJ d vs=true->False:=by
     intro vs;induction vs with
     | nil=>intro l _ hr;cases hr
     | cons v r ih =>
      intro l hl hr;match l,hl with
      | x::l,hl =>
       simp only[AV.jJ] at hr;split at hr
       .rename_i hv;have h1:=hl.1;cases v with
        | aD i=>exact c1 (.aD i) x h1 hv
        | agg cs =>
         obtain⟨l',_,so⟩:=h1;exact cL cs l' so hv
        | aT u=>cases hv
        | dH u=>cases hv
        | any=>cases hv
        | _=>exact h1
       .exact ih l hl.2 hr
    exact (this vs l hl hr).elim
   | dO f vs =>
    intro hr hv;obtain⟨l,_,hl⟩:=hv;have:∀ (vs:List AV) (l:List Value),bf (CR c G lk w) vs l->AV.jJ d vs=true->False:=by
     intro vs;induction vs with
     | nil=>intro l _ hr;cases hr
     | cons v r ih =>
      intro l hl hr;match l,hl with
      | x::l,hl =>
       simp only[AV.jJ] at hr;split at hr
       .rename_i hv;rcases hl.1.inv with ⟨u,rfl,_⟩|⟨cs,l',rfl,_,so⟩|h1
        .cases hv
        .exact cL cs l' so hv
        .exact c1 _ x h1 hv
       .exact ih l hl.2 hr
    exact (this vs l hl hr).elim
   | any=>intro hr;cases hr
   | fO=>intro hr;cases hr
   | nil=>intro hr;cases hr
   | dH u=>intro hr;cases hr
   | fn f=>intro hr;cases hr
   | me v=>intro hr;cases hr
   | ptr i o=>intro hr hv;exact (c1 (.ptr i o) x hv hr).elim
   | row i=>intro hr hv;exact (c1 (.row i) x hv hr).elim
   | gp i k o=>intro hr hv;exact (c1 (.gp i k o) x hv hr).elim
   | aD i=>intro hr hv;exact (c1 (.aD i) x hv hr).elim
   | sub i k o z=>intro hr hv;exact (c1 (.sub i k o z) x hv hr).elim
   | gQ i k o z=>intro hr hv;exact (c1 (.gQ i k o z) x hv hr).elim
   | mp i=>intro hr hv;exact (c1 (.mp i) x hv hr).elim
 .cases hr:o.refs d with
  | false=>rfl
  | true =>
   cases o with
   | row e τ xs=>cases hr
   | aD τ xs=>cases hr
   | map m=>cases hr
   | box cs =>
    obtain⟨b,l,t,_,_,k3⟩:=h.aR i _ ho;exact (cL cs l k3 hr).elim
structure Ext(G:Gh)(lk:Nat->Option aG)(G':Gh)(lk':Nat->Option aG):Prop where
 S:G'.S=G.S
 old:∀ i o,lk i=some o->lk' i=some o/\G'.η i=G.η i/\G'.φ i=G.φ i
theorem Ext.refl(G:Gh)(lk:Nat->Option aG):Ext G lk G lk:=⟨rfl,λ _ _ h=>⟨h,rfl,rfl⟩⟩
theorem Ext.trans{G1 G2 G3:Gh}{l1 l2 l3:Nat->Option aG}(h:Ext G1 l1 G2 l2)(k:Ext G2 l2 G3 l3):Ext G1 l1 G3 l3 :=
 ⟨k.S.trans h.S,λ i o ho=>by
  obtain⟨a1,a2,a3⟩:=h.old i o ho;obtain⟨b1,b2,b3⟩:=k.old i o a1;exact⟨b1,b2.trans a2,b3.trans a3⟩⟩
theorem C1.ext{G':Gh}{lk':Nat->Option aG}(e:Ext G lk G' lk'){v:AV}{x:Value}(h:C1 c G lk w v x):C1 c G' lk' w v x:=by
 refine h.mono (λ id bm=>?_) (λ b hb=>by rw[e.S];exact hb) (λ _ _=>rfl);have gU:lk id≠none:=λ hn=>by
  cases v with
  | ptr i o=>have:=b0P (show Nat.beq i id=true from bm);subst this;obtain⟨_,_,_,h3⟩:=h;rw[hn] at h3;cases h3
  | row i=>have:=b0P (show Nat.beq i id=true from bm);subst this;obtain⟨_,h3,_⟩:=h;rw[hn] at h3;cases h3
  | gp i k o=>have:=b0P (show Nat.beq i id=true from bm);subst this;obtain⟨_,_,_,_,_,_,_,h3,_⟩:=h;rw[hn] at h3;cases h3
  | aD i=>have:=b0P (show Nat.beq i id=true from bm);subst this;have h3:=h.1;rw[hn] at h3;cases h3
  | sub i k o z=>have:=b0P (show Nat.beq i id=true from bm);subst this;have h3:=h.1;rw[hn] at h3;cases h3
  | gQ i k o z=>have:=b0P (show Nat.beq i id=true from bm);subst this;have h3:=h.1;rw[hn] at h3;cases h3
  | mp i=>have:=b0P (show Nat.beq i id=true from bm);subst this;have h3:=h.2.1;rw[hn] at h3;cases h3
  | agg cs=>exact h
  | mI cs=>exact h
  | dO f cs=>exact h
  | _=>cases bm
 match hl:lk id,gU with
 | some o,_ =>
  obtain⟨h1,h2,_⟩:=e.old id o hl;rw[h1];exact⟨gw.refl _,h2⟩
def Fr(c:Ctx)(G:Gh)(lk:Nat->Option aG)(w:World)(fp:List Nat):Prop :=
 ∀ b∈fp,(c.w0.heap.size<=b\/c.X b)/\¬ G.S b/\b<w.heap.size/\(∀ i o,lk i=some o->gi (G.η i)≠some b)/\∀ j τ xs,lk j=some (.aD τ xs)->b∉G.φ j
def jZ(news:List (Nat×aG))(lk:Nat->Option aG)(i:Nat):Option aG:=match ah news i with
 | some o=>some o
 | none=>lk i
theorem a5A(lk:Nat->Option aG):jZ [] lk=lk:=rfl
theorem a3B(id:Nat)(o:aG)(r:List (Nat×aG))(lk:Nat->Option aG)(hr:ah r id=none):jZ r (λ i=>if i=id then some o else lk i)=jZ ((id,o)::r) lk:=by
 funext i;unfold jZ;rw[eK];by_cases hi:i=id
 .subst hi;rw[hr];simp
 .simp[hi]
theorem Sm:∀ (r r':List (Nat×aG)) (lk:Nat->Option aG),jZ (r++r') lk=jZ r (jZ r' lk)
 | [],r',lk=>rfl
 | (id,o)::r,r',lk=>by
  funext i;have:=congrFun (Sm r r' lk) i;unfold jZ at this ⊢;rw[List.cons_append,eK,eK];by_cases hi:i=id
  .simp[hi]
  .simpa [hi] using this
theorem l6.Zg{τ:Ty}{xs:List τ.den}{x:Value}{fp:List Nat}(h:Ow w (.slice τ.size (xs.map τ.bc)) [x] fp):∃ l,l6 w (.tuple (x::l).toArray) τ xs fp/\∃ a n m,x = .slice a n m:=by
 obtain⟨a',cap,h1,h2,h3,h4,h5⟩:=h;simp only[b0T,b1b,b1o] at h1 h2 h4;subst h1;rcases h5 with ⟨hx,ha,hf⟩|⟨b,f,l,t,ha,hf,k1,k2⟩
 .refine⟨[],⟨_,[],a',cap,rfl,rfl,h2,h3,h4, .inl ⟨?_,ha,hf⟩⟩,_,_,_,rfl⟩;simpa using hx
 .exact⟨l,⟨_,l,a',cap,rfl,rfl,h2,h3,h4, .inr ⟨b,f,t,ha,hf,k1,k2⟩⟩,_,_,_,rfl⟩
theorem Ow.a5G{η:Value}{τ:Ty}{xs:List τ.den}{fp:List Nat}(h:l6 w η τ xs fp){x:Value}{l:List Value}(hx:η = .tuple (x::l).toArray):Ow w (.slice τ.size (xs.map τ.bc)) [x] fp:=by
 obtain⟨v,l',a',cap,h1,h2,h3,h4,h5,h6⟩:=h;rw[hx] at h1;simp only[Value.tuple.injEq,List.toArray_inj,List.cons.injEq] at h1;obtain⟨rfl,rfl⟩:=h1;refine⟨a',cap,by simp[h2],by simpa using h3,h4,by simpa using h5,?_⟩;rcases h6 with ⟨rfl,q1,q2⟩|⟨b,f,t,q1,q2,q3,q4⟩
 .exact .inl ⟨rfl,q1,q2⟩
 .exact .inr ⟨b,f,l,t,q1,q2,q3,q4⟩
theorem iS:∀ {l:List (Nat×aG)} {id:Nat} {o:aG},ah l id=some o->(id,o)∈l
 | (k,p)::r,id,o,h=>by
  simp only[ah] at h;split at h
  .rename_i hk;have hk:=b0P hk;simp only[b0L] at h;subst hk h;simp
  .exact b2t _ (iS h)
theorem bH.a4l(h:bH c G sl n lk a w){u:TV}(hu:u.τ.agg=false){x:Value}{fp:List Nat}{id:Nat}(hO:Ow w u.bc [x] fp)(dt:fp.Nodup)(hF:Fr c G lk w fp)(bm:∀ p∈iW id u,lk p.1=none)(hR:c.R id=none) :
  ∃ G',bH c G' sl n (jZ (iW id u) lk) a w/\Ext G lk G' (jZ (iW id u) lk)/\C1 c G' (jZ (iW id u) lk) w (mF id u) x /\
   ∀ fq,Fr c G lk w fq->(∀ b∈fq,b∉fp)->Fr c G' (jZ (iW id u) lk) w fq:=by
 have Cn:(iW id u=[]/\mF id u = .aT u)->∃ G',bH c G' sl n (jZ (iW id u) lk) a w/\Ext G lk G' (jZ (iW id u) lk)/\C1 c G' (jZ (iW id u) lk) w (mF id u) x /\
   ∀ fq,Fr c G lk w fq->(∀ b∈fq,b∉fp)->Fr c G' (jZ (iW id u) lk) w fq:=by
  rintro⟨e1,e2⟩;rw[e1,e2];exact⟨G,h,Ext.refl _ _,⟨hu,hO.rd (S:=λ b=>b∈fp) _ (λ _ h=>h) |> λ hr=>by
   obtain⟨τ,y⟩:=u;cases τ with
   | slice t=>simp[iW] at e1
   | mv t=>simp[mF] at e2
   | ptr=>exact hr
   | st s=>cases hu
   | int k=>exact hr
   | bool=>exact hr
   | str=>exact hr⟩,λ fq hq _=>hq⟩
 obtain⟨τ,y⟩:=u;cases τ with
 | mv t=>exact⟨G,h,Ext.refl _ _,af,λ fq hq _=>hq⟩
 | slice t =>
  obtain⟨l,hT,Kk⟩:=l6.Zg (τ:=t) (xs:=y) hO;have hn:lk id=none:=bm (id, .aD t y) (by simp[iW]);obtain⟨S1,hr2⟩:=h.VP hn;have hI:=h.VL id t y _ fp hn S1 hr2 hR hT dt hF;have cY:jZ (iW id ⟨.slice t,y⟩) lk=λ i=>if i=id then some (.aD t y) else lk i:=by
   rw[<-a5A (λ i=>if i=id then some (aG.aD t y) else lk i),a3B id _ [] lk rfl];rfl
  rw[cY];refine⟨_,hI,⟨rfl,λ i o ho=>?_⟩,⟨by simp[cN],l,by simp,Kk⟩,λ fq hq BH b hb=>?_⟩
  .have hi:i≠id:=λ e=>by subst e;rw[hn] at ho;cases ho
   simp[hi,ho]
  .obtain⟨q1,q2,q3,q4,q5⟩:=hq b hb;refine⟨q1,q2,q3,λ i o cU e=>?_,λ j τ xs hj=>?_⟩
   .by_cases hi:i=id
    .simp only[b1q hi] at e;cases e
    .simp only[b0Y hi] at cU e;exact q4 i o cU e
   .by_cases hi:j=id
    .simp only[b1q hi];exact BH b hb
    .simp only[b0Y hi] at hj ⊢;exact q5 j τ xs hj
 | st s=>cases hu
 | ptr=>exact Cn ⟨rfl,rfl⟩
 | int k=>exact Cn ⟨rfl,rfl⟩
 | bool=>exact Cn ⟨rfl,rfl⟩
 | str=>exact Cn ⟨rfl,rfl⟩
theorem So{id:Nat}{u:TV}{p:Nat×aG}(h:p∈iW id u):p.1=id:=by
 obtain⟨τ,y⟩:=u;cases τ<;>simp[iW] at h;rw[h]
theorem Vu{r:List (Nat×aG)}{i:Nat}(h:∀ p∈r,p.1≠i):ah r i=none:=by
 induction r with
 | nil=>rfl
 | cons p r ih =>
  obtain⟨k,o⟩:=p;rw[eK,b0Y (λ e=>h (k,o) (by simp) e.symm)];exact ih λ q hq=>h q (by simp[hq])
theorem bH.Di:∀ {us:List TV} {cs:List Value} {fp:List Nat} {id:Nat} {G:Gh} {lk:Nat->Option aG},bH c G sl n lk a w->(∀ u∈us,u.τ.agg=false)->dE w (us.map TV.bc) cs fp->fp.Nodup->Fr c G lk w fp ->
  (∀ p∈cw id us,lk p.1=none)->((cw id us).map (·.1)).Nodup->(∀ j,id<=j->c.R j=none) ->
  ∃ G' lk',(∀ i,lk' i=jZ (cw id us) lk i)/\bH c G' sl n lk' a w/\Ext G lk G' lk'/\bf (C1 c G' lk' w) (cz id us) cs/\∀ fq,Fr c G lk w fq->(∀ b∈fq,b∉fp)->Fr c G' lk' w fq
 | [],cs,fp,id,G,lk,h,_,hO,_,_,_,_,_=>by
  obtain⟨rfl,rfl⟩:=hO;exact⟨G,lk,λ _=>rfl,h,Ext.refl _ _,af,λ fq hq _=>hq⟩
 | u::us,cs,fp,id,G,lk,h,hu,hO,dt,hF,bm,vw,hR=>by
  obtain⟨v,r,f1,f2,rfl,rfl,h1,h2⟩:=hO;rw[b1k] at dt;obtain⟨nd1,nd2,nd3⟩:=dt;simp only[cw,b2G] at vw;rw[b1k] at vw;obtain⟨d1,d2,d3⟩:=vw;obtain⟨G1,i1,e1,c1,fr1⟩:=h.a4l (id:=id) (hu u (by simp)) h1 nd1 (λ b hb=>hF b (by simp[hb])) (λ p hp=>bm p (by simp[cw,hp])) (hR id (b1E _));have gU:∀ p∈cw (id+1) us,ah (iW id u) p.1=none:=λ p hp=>Vu λ q hq e=>d3 q.1 (b0S.2 ⟨q,hq,rfl⟩) p.1 (b0S.2 ⟨p,hp,rfl⟩) e;obtain⟨G2,lk2,k1,k2,k3,k4,k5⟩:=bH.Di (us:=us) (cs:=r) (fp:=f2) (id:=id+1) i1 (λ u hu'=>hu u (by simp[hu'])) h2 nd2
   (fr1 f2 (λ b hb=>hF b (by simp[hb])) (λ b hb cO=>nd3 b cO b hb rfl)) (λ p hp=>by unfold jZ;rw[gU p hp];exact bm p (by simp[cw,hp])) d2 (λ j hj=>hR j (by omega))
  refine⟨G2,lk2,λ i=>?_,k2,e1.trans k3,⟨c1.ext k3,k4⟩,λ fq hq BH=>k5 fq (fr1 fq hq λ b hb cO=>BH b hb (by simp[cO])) λ b hb cO=>BH b hb (by simp[cO])⟩;rw[k1 i];simp only[cw];unfold jZ;have a9o:∀ (r r':List (Nat×aG)) (j:Nat),ah (r++r') j=match ah r j with|some o=>some o|none=>ah r' j:=by
   intro r r' j;induction r with
   | nil=>rfl
   | cons p r ih =>
    obtain⟨k,o⟩:=p;rw[b1Z,eK,eK];by_cases hj:j=k
    .simp[hj]
    .simpa [hj] using ih
  rw[a9o];cases hx:ah (cw (id+1) us) i with
  | none=>simp only[];cases ah (iW id u) i<;>rfl
  | some o =>
   simp only[];have hm:=iS hx;rw[gU _ hm]
theorem Lx(s:aY)(y:s.den):∀ u∈s.cells y,u.τ.agg=false:=λ u hu=>by
 have:=aY.tT s y u hu;obtain⟨bw,z'⟩:=u;cases bw with
 | st s'=>simp[TV.bc,Ty.bc,aY.cP,D.leaf] at this
 | _=>rfl
theorem TR.ext{G':Gh}{lk':Nat->Option aG}(e:Ext G lk G' lk'){v:AV}{x:Value}(h:TR c G lk w v x):TR c G' lk' w v x:=by
 cases v with
 | any=>trivial
 | aT v=>exact gM.mono (G:=G) (G':=G') h (λ b hb=>by rw[e.S];exact hb) (λ _ _=>rfl)
 | aD i=>exact C1.ext (c:=c) (w:=w) (v := .aD i) e h
 | dH v=>exact C1.ext (c:=c) (w:=w) (v := .dH v) e h
 | agg cs =>
  obtain⟨l,h1,h2⟩:=h;exact⟨l,h1,h2.imp λ u y _ hy=>hy.ext e⟩
 | _=>exact h.elim
theorem TR.jS{v:AV}{x:Value}(h:TR c G lk w v x):VR c G lk w v x:=by
 cases v with
 | any=>trivial
 | aT v=>exact h
 | aD i=>exact h
 | dH v=>exact h
 | agg cs=>exact h
 | _=>exact h.elim
theorem C1.b0d{id:Nat}{u:TV}{x:Value}(h:C1 c G lk w (mF id u) x)(hu:u.τ.agg=false):TR c G lk w (mF id u) x:=by
 obtain⟨τ,y⟩:=u;cases τ with
 | slice t=>exact h
 | mv t=>exact h
 | ptr=>exact h.2
 | st s=>cases hu
 | int k=>exact h.2
 | bool=>exact h.2
 | str=>exact h.2
theorem bH.TD{v:TV}{x:Value}{fp:List Nat}{id:Nat}{G:Gh}{lk:Nat->Option aG}(h:bH c G sl n lk a w)(hO:Dh w v x fp)(dt:fp.Nodup)(hF:Fr c G lk w fp)
  (bm:∀ p∈cw id v.cells,lk p.1=none) (vw:((cw id v.cells).map (·.1)).Nodup) (hR:∀ j,id<=j->c.R j=none) :
  ∃ G' lk',(∀ i,lk' i=jZ (cw id v.cells) lk i)/\bH c G' sl n lk' a w/\Ext G lk G' lk'/\TR c G' lk' w (gZ id v) x/\∀ fq,Fr c G lk w fq->(∀ b∈fq,b∉fp)->Fr c G' lk' w fq:=by
 have one:v.τ.agg=false->v.cells=[v]->gZ id v=mF id v->Ow w v.bc [x] fp->∃ G' lk',(∀ i,lk' i=jZ (cw id v.cells) lk i)/\bH c G' sl n lk' a w/\Ext G lk G' lk'/\TR c G' lk' w (gZ id v) x/\∀ fq,Fr c G lk w fq->(∀ b∈fq,b∉fp)->Fr c G' lk' w fq:=by
  intro hv hc hov hO;rw[hc] at bm vw;obtain⟨G',lk',k1,k2,k3,k4,k5⟩:=h.Di (us:=[v]) (cs:=[x]) (fp:=fp) (by simpa using hv) ⟨x,[],fp,[],rfl,by simp,hO,rfl,rfl⟩ dt hF bm vw hR;rw[hc,hov];exact⟨G',lk',k1,k2,k3,C1.b0d k4.1 hv,k5⟩
 obtain⟨τ,y⟩:=v;cases τ with
 | st s =>
  obtain⟨cs,rfl,hO⟩:=hO;rw[aY.cP] at hO;obtain⟨G',lk',k1,k2,k3,k4,k5⟩:=h.Di (us:=s.cells y) (cs:=cs) (fp:=fp) (Lx s y) hO dt hF bm vw hR;exact⟨G',lk',k1,k2,k3,⟨cs,rfl,k4⟩,k5⟩
 | slice t=>exact one rfl rfl rfl hO
 | mv t=>exact one rfl rfl rfl hO
 | ptr=>exact one rfl rfl rfl hO
 | int k=>exact one rfl rfl rfl hO
 | bool=>exact one rfl rfl rfl hO
 | str=>exact one rfl rfl rfl hO
theorem a3A{r r':List (Nat×aG)}(hd:∀ p∈r',ah r p.1=none)(lk:Nat->Option aG)(i:Nat):jZ r' (jZ r lk) i=jZ (r++r') lk i:=by
 rw[Sm];unfold jZ;cases hx:ah r' i with
 | none=>rfl
 | some o =>
  have:=hd _ (iS hx);simp only[] at this ⊢;rw[this]
theorem bH.Ny:∀ {vs:List TV} {xs:List Value} {fp:List Nat} {id:Nat} {G:Gh} {lk:Nat->Option aG},bH c G sl n lk a w->Nt w vs xs fp->fp.Nodup->Fr c G lk w fp ->
  (∀ p∈bJ id vs,lk p.1=none)->((bJ id vs).map (·.1)).Nodup->(∀ j,id<=j->c.R j=none) ->
  ∃ G' lk',(∀ i,lk' i=jZ (bJ id vs) lk i)/\bH c G' sl n lk' a w/\Ext G lk G' lk'/\bf (TR c G' lk' w) (Pq id vs) xs/\∀ fq,Fr c G lk w fq->(∀ b∈fq,b∉fp)->Fr c G' lk' w fq
 | [],[],fp,id,G,lk,h,_,_,_,_,_,_=>⟨G,lk,λ _=>rfl,h,Ext.refl _ _,af,λ fq hq _=>hq⟩
 | v::vs,x::xs,fp,id,G,lk,h,hO,dt,hF,bm,vw,hR=>by
  obtain⟨f1,f2,rfl,h1,h2⟩:=hO;rw[b1k] at dt;obtain⟨nd1,nd2,nd3⟩:=dt;simp only[bJ,b2G] at vw;rw[b1k] at vw;obtain⟨d1,d2,d3⟩:=vw;obtain⟨G1,Em,l1,i1,e1,c1,fr1⟩:=h.TD (id:=id) h1 nd1 (λ b hb=>hF b (by simp[hb])) (λ p hp=>bm p (by simp[bJ,hp])) d1 hR;have gU:∀ p∈bJ (id+20) vs,ah (cw id v.cells) p.1=none:=λ p hp=>Vu λ q hq e=>d3 q.1 (b0S.2 ⟨q,hq,rfl⟩) p.1 (b0S.2 ⟨p,hp,rfl⟩) e;obtain⟨G2,lk2,k1,k2,k3,k4,k5⟩:=bH.Ny (vs:=vs) (xs:=xs) (fp:=f2) (id:=id+20) i1 h2 nd2
   (fr1 f2 (λ b hb=>hF b (by simp[hb])) (λ b hb cO=>nd3 b cO b hb rfl)) (λ p hp=>by rw[l1 p.1];unfold jZ;rw[gU p hp];exact bm p (by simp[bJ,hp])) d2 (λ j hj=>hR j (by omega))
  refine⟨G2,lk2,λ i=>?_,k2,e1.trans k3,⟨c1.ext k3,k4⟩,λ fq hq BH=>k5 fq (fr1 fq hq λ b hb cO=>BH b hb (by simp[cO])) λ b hb cO=>BH b hb (by simp[cO])⟩;rw[k1 i,show Em=jZ (cw id v.cells) lk from funext l1];exact a3A gU lk i
 | [],_::_,_,_,_,_,_,hO,_,_,_,_,_=>hO.elim
 | _::_,[],_,_,_,_,_,hO,_,_,_,_,_=>hO.elim
theorem tU(r r':List (Nat×aG))(i:Nat):ah (r++r') i=jZ r (ah r') i:=by
 unfold jZ;induction r with
 | nil=>rfl
 | cons p r ih =>
  obtain⟨k,o⟩:=p;rw[b1Z,eK,eK];by_cases hj:i=k
  .simp[hj]
  .simpa [hj] using ih
theorem MW{id:Nat}{res:List TV}{x:Value}{fp:List Nat}(h:Lu w res x fp):∃ xs,Nt w res xs fp/\∀ (G:Gh) (lk:Nat->Option aG),bf (TR c G lk w) (Pq id res) xs->VR c G lk w (o8 id res) x:=by
 match res,h with
 | [v],h=>exact⟨[x],⟨fp,[],by simp,h,rfl⟩,λ G lk ha=>ha.1.jS⟩
 | [],h =>
  obtain⟨l,h1,h2⟩:=h;exact⟨l,h2,λ G lk ha=>⟨l,h1,ha⟩⟩
 | v::u::r,h =>
  obtain⟨l,h1,h2⟩:=h;exact⟨l,h2,λ G lk ha=>⟨l,h1,ha⟩⟩
end
section
variable {c:Ctx} {G:Gh} {s:ai} {a:Act} {w w':World}
theorem dz:∀ {l:List Nat},nodupB l=true->l.Nodup
 | [],_=>b2c
 | a::r,h=>by
  simp only[nodupB] at h;split at h
  .cases h
  .rename_i hc;exact List.nodup_cons.2 ⟨by simpa using hc,dz h⟩
theorem V0(hE:bU c.P c.E)(h:Inv c G s a w){o:Oper}{f:FuncId}{Ts:List TypeId}{vs:List AV}{xs:List Value}{Z9:List Arg}{pre:Vc}{res:List TV}{d b:Nat}{Q:Exit->Act->World->Prop}
  (has:qX c.E s.ah Ts vs=some Z9) (pX:bf (VR c G s.ah w) vs xs) (hc:c.E.O4 f Z9=some (pre,res)) (zS:pre.ok) (hd:o.dst=some d)
  (xN:∀ p∈bJ b res,s.ah p.1=none) (vw:((bJ b res).map (·.1)).Nodup) (hR:100<=b)
  (c9:oC c.P f->(execOp a.eval o).run c.P w = .ok (.enter f xs.toArray) w) :
  o.wp c.P a w (λ a' w'=>∃ G',Inv c G' { aE:=s.aE.set d (o8 b res),aR:=bJ b res++s.aR } a' w') Q:=by
 obtain⟨rV,mM⟩:=hE.O4 f Z9 pre res hc zS;unfold Oper.wp;rw[c9 rV];simp only[Oper.upon];refine (mM w (SX G s.ah) xs [] ?_ (.VS (l7 hE h (λ _ _ h=>h) (λ _ h => .inl h) (λ τ v x y h1 h2=>EM h.aW h.aR (λ _ _ h=>h) h1 h2) has pX)) (.inl rfl) List.nodup_nil (by simp)).mono ?_
 .exact h.a3d
 .rintro e w' ⟨x,fp,rfl,hk,hO,dt,tl⟩;have hk:bV (λ _=>False) w w':=⟨hk.os,hk.tape,hk.output,hk.size,λ b hb _=>hk.block b hb (by simp)⟩;have tl:∀ b∈fp,w.heap.size<=b/\b<w'.heap.size:=λ b hb=>(tl b hb).resolve_left (by simp);have hI:=bH.grow h hk (S':=G.S) (λ _ _=>b2L) (λ b hb=>b1c (h.eV b hb) hk.size);obtain⟨ys,uh,S3⟩:=MW (c:=c) (id:=b) hO;have hF:Fr c ⟨G.S,G.η,G.φ⟩ s.ah w' fp:=λ b hb=>by
   obtain⟨h1,h2⟩:=tl b hb;have:=h.bd.size;refine⟨.inl (by omega),λ hs=>?_,h2,λ i o' hi uC=>?_,λ j τ zs hj rU=>?_⟩
   .have:=h.eV b hs;omega
   .have:=(h.place i o' b hi uC).2.2;omega
   .have:=(h.aW.pl j τ zs b hj rU).2.2.1;omega
  obtain⟨G',lk',k1,k2,k3,k4,_⟩:=hI.Ny (id:=b) uh dt hF xN vw (λ j hj=>by
   cases hr:c.R j with
   | none=>rfl
   | some v=>have:=h.mG j v hr;omega)
  refine⟨G',?_⟩;have cY:ai.ah { aE:=s.aE.set d (o8 b res),aR:=bJ b res++s.aR }=lk':=by
   funext i;rw[k1 i];exact tU _ _ i
  unfold Inv;rw[cY,hd,show ai.sl { aE:=s.aE.set d (o8 b res),aR:=bJ b res++s.aR }=oK s.aE.length s.sl (some d) (o8 b res) from vl s.aE d _ _,
   show ({ aE:=s.aE.set d (o8 b res),aR:=bJ b res++s.aR }:ai).aE.length=s.aE.length from by simp]
  exact bH.put k2 (S3 G' lk' k4)
end
theorem gX{α:Type}:∀ {l:List (Nat×α)} {id:Nat} {o:α},ah l id=some o->(id,o)∈l
 | (k,p)::r,id,o,h=>by
  simp only[ah] at h;split at h
  .rename_i hk;have hk:=b0P hk;simp only[b0L] at h;subst hk h;simp
  .exact b2t _ (gX h)
theorem yS{α:Type}:∀ {l:List (Nat×α)} {id:Nat} {o:α},(l.map (·.1)).Nodup->(id,o)∈l->ah l id=some o
 | (k,p)::r,id,o,hd,h=>by
  simp only[b1J,b1G] at hd;simp only[ah];rcases b1e.1 h with e|h
  .simp only[b0O] at e;obtain⟨rfl,rfl⟩:=e;simp
  .split
   .rename_i hk;have hk:=b0P hk;subst hk;exact absurd (b0S.2 ⟨_,h,rfl⟩) hd.1
   .exact yS hd.2 h
section
variable {c:Ctx} {G:Gh} {sl:Nat->AV} {n:Nat} {lk:Nat->Option aG} {a:Act} {w w':World}
abbrev TE:=Value×List Nat×aG
def Ja(A:List (Nat×TE))(G:Gh)(i:Nat):Value:=match ah A i with
 | some e=>e.1
 | none=>G.η i
def Cp(A:List (Nat×TE))(G:Gh)(i:Nat):List Nat:=match ah A i with
 | some e=>e.2.1
 | none=>G.φ i
def Tm(A:List (Nat×TE))(lk:Nat->Option aG)(i:Nat):Option aG:=match ah A i with
 | some e=>some e.2.2
 | none=>lk i
structure ZC(G:Gh)(lk:Nat->Option aG)(w':World)(id:Nat)(e:TE):Prop where
 ex:∃ τ xs dw v l l',lk id=some (.aD τ xs)/\e.2.2 = .aD τ dw/\G.η id = .tuple (v::l).toArray/\e.1 = .tuple (v::l').toArray/\l6 w' e.1 τ dw e.2.1/\e.2.1.Nodup
theorem KL.ofList{A:List (Nat×TE)}(hA:∀ p∈A,ZC G lk w' p.1 p.2)(a1y:∀ p∈A,∀ b∈p.2.2.1,(∃ q∈A,b∈G.φ q.1)\/yF c G lk w' b)(YM:∀ p∈A,∀ q∈A,∀ b∈p.2.2.1,b∈q.2.2.1->p.1=q.1)(dt:(A.map (·.1)).Nodup)
  (a8f:∀ b,b<w.heap.size->(∀ p∈A,b∉G.φ p.1)->w'.heap[b]?=w.heap[b]?) (hos:w'.os=w.os) (a1C:w'.tape=w.tape) (XO:w'.output=w.output) (QD:w.heap.size<=w'.heap.size) :
  KL c G lk (Tm A lk) w w' (Ja A G) (Cp A G) (λ i=>∃ e,ah A i=some e) where
 same id hi:=by
  have:ah A id=none:=by
   cases hx:ah A id with
   | none=>rfl
   | some e=>exact absurd ⟨e,hx⟩ hi
  simp[Tm,Ja,Cp,this]
 aD id:=by
  rintro⟨e,he⟩;obtain⟨τ,xs,dw,v,l,l',h1,h2,h3,h4,h5,h6⟩:=(hA _ (gX he)).ex;refine⟨τ,xs,dw,v,l,l',h1,?_,h3,?_,?_,?_⟩
  .simp only[Tm,he];rw[<-h2]
  .simp only[Ja,he];exact h4
  .simp only[Ja,Cp,he];exact h5
  .simp only[Cp,he];exact h6
 a7h id b:=by
  rintro⟨e,he⟩ hb;simp only[Cp,he] at hb;rcases a1y _ (gX he) b hb with ⟨q,hq,hbq⟩|YS
  .exact .inl ⟨q.1,⟨q.2,yS dt hq⟩,hbq⟩
  .exact .inr YS
 apart id er b:=by
  rintro⟨e,he⟩ ⟨e',DT⟩ hb cO;simp only[Cp,he] at hb;simp only[Cp,DT] at cO;exact YM _ (gX he) _ (gX DT) b hb cO
 heap b hb hn:=a8f b hb λ p hp=>hn p.1 ⟨p.2,yS dt hp⟩
 os:=hos
 tape:=a1C
 output:=XO
 size:=QD
def yG(G:Gh)(lk:Nat->Option aG)(ids:List Nat)(b:Nat):Prop :=
 ∃ id∈ids,(∃ τ xs,lk id=some (.aD τ xs)/\b∈G.φ id)\/∃ e τ xs,lk id=some (.row e τ xs)/\gi (G.η id)=some b
theorem yG.mono{ids Ij:List Nat}{b:Nat}(h:yG G lk ids b)(hs:∀ i∈ids,i∈Ij):yG G lk Ij b:=by
 obtain⟨id,hi,h⟩:=h;exact⟨id,hs id hi,h⟩
theorem bH.mN(h:bH c G sl n lk a w){i j:List Nat}{b:Nat}(hi:yG G lk i b)(hj:yG G lk j b)(hd:∀ x∈i,∀ y∈j,x≠y):False:=by
 obtain⟨x,hx,h1⟩:=hi;obtain⟨y,hy,h2⟩:=hj;rcases h1 with ⟨τ,xs,k1,k2⟩|⟨e,τ,xs,k1,k2⟩<;>rcases h2 with ⟨bw,dw,m1,m2⟩|⟨e',bw,dw,m1,m2⟩
 .exact hd x hx y hy (h.aW.ap x y τ bw xs dw b k1 m1 k2 m2)
 .exact (h.aW.pl x τ xs b k1 k2).2.2.2 y _ m1 m2
 .exact (h.aW.pl y bw dw b m1 m2).2.2.2 x _ k1 k2
 .exact hd x hx y hy (h.apart x y _ _ b k1 m1 k2 m2)
theorem xC{τ:Ty}(h:τ.Cn=true)(y:τ.den):(τ.bc y).light=true:=by
 cases τ<;>first|rfl|cases h
theorem Vs:∀ {l:List D},(∀ d∈l,d.light=true)->D.Jw l=true
 | [],_=>rfl
 | d::ds,h=>by
  simp only[D.Jw,b0R];exact⟨h d (by simp),Vs λ e he=>h e (b2t _ he)⟩
theorem Zk{τ:Ty}(h:τ.plain=true)(y:τ.den):(τ.bc y).light=true:=by
 cases τ with
 | st s =>
  show (s.bc y).light=true;rw[aY.cP];refine Vs λ d hd=>?_;obtain⟨u,hu,rfl⟩:=b0S.1 hd;have ht:u.τ∈s.zD:=by rw[<-aY.vG s y];exact b0S.2 ⟨u,hu,rfl⟩
  exact xC (b1L.1 h _ ht) u.x
 | slice t=>cases h
 | mv t=>cases h
 | ptr=>rfl
 | int k=>rfl
 | bool=>rfl
 | str=>rfl
theorem Co(h:bH c G sl n lk a w){τ:Ty}{v:AV}{x:Value}{y:τ.den}{ids:List Nat}(ht:fF lk τ v=some (y,ids))(hv:C1 c G lk w v x):∃ fp,Ow w (τ.bc y) [x] fp/\fp.Nodup/\∀ b∈fp,yG G lk ids b:=by
 cases v with
 | aT u =>
  simp only[fF] at ht;split at ht
  .rename_i y' hs hy;simp only[b0L,b0O] at ht;obtain⟨rfl,rfl⟩:=ht;have e:=TV.bj hy;subst e;exact⟨[],Ow.iv _ (xC hs _) hv.2,b2c,by simp⟩
  .cases ht
 | nil =>
  cases τ with
  | slice t =>
   simp only[fF,b0L,b0O] at ht;obtain⟨rfl,rfl⟩:=ht;exact⟨[],⟨none,0,by rw[show x=_ from hv];rfl,by simp,by simp[maxLen],by simp, .inl ⟨rfl,⟨rfl,rfl⟩,rfl⟩⟩,b2c,by simp⟩
  | _=>cases ht
 | aD id =>
  simp only[fF] at ht;split at ht
  .rename_i bw xs hl;split at ht
   .rename_i y' hy;simp only[b0L,b0O] at ht;obtain⟨rfl,rfl⟩:=ht;have e:=TV.bj hy;cases e;obtain⟨_,l,h2,_⟩:=hv;exact⟨G.φ id,Ow.a5G (h.aW.tr id bw xs hl) h2,h.aW.nd id bw xs hl,λ b hb=>⟨id,by simp, .inl ⟨bw,xs,hl,hb⟩⟩⟩
   .cases ht
  .cases ht
 | row id =>
  simp only[fF] at ht;split at ht
  .rename_i e bw xs hl;split at ht
   .rename_i y' hp hy;simp only[b0L,b0O] at ht;obtain⟨rfl,rfl⟩:=ht;have e1:=TV.bj hy;cases e1;obtain⟨hx,_,_⟩:=hv;obtain⟨l,h1,h2,h3⟩:=h.aR id _ hl;have a6x:∀ d∈xs.map bw.bc,d.light=true:=λ d hd=>by
     obtain⟨z,_,rfl⟩:=b0S.1 hd;exact Zk hp z
    rcases h1.2 with ⟨YZ,hn⟩|⟨g,cap,cur,YZ,_,hh,SW,hcm,oR,htk⟩
    .have pX:xs=[]:=b1X hn;subst pX;exact⟨[],⟨none,0,by rw[hx,YZ];rfl,by simp,by simp[maxLen],by simp, .inl ⟨rfl,⟨rfl,rfl⟩,rfl⟩⟩,b2c,by simp⟩
    .refine⟨[g],⟨some ⟨g,0,none⟩,cap,by rw[hx,YZ];simp,by simpa using SW,hcm,by simpa using h3, .inr ⟨g,[],cur.toList,e,rfl,rfl,by simpa using hh,?_⟩⟩,by simp,λ b hb=>?_⟩
     .have hr:=cm.iv (w:=w) (S:=G.S) (xs.map bw.bc) (l:=l) (m:=cur.toList.drop (xs.length * bw.size)) a6x h2;rw[<-htk,b2f] at hr;exact⟨by rw[b1S];exact oR,hr⟩
     .simp only[b1x] at hb;subst hb;exact⟨id,by simp, .inr ⟨e,bw,xs,hl,by rw[YZ];rfl⟩⟩
   .cases ht
  .cases ht
 | _=>cases ht
theorem fK{l1 l2:List Nat}(h1:l1.Nodup)(h2:l2.Nodup)(h3:∀ x∈l1,x∉l2):(l1++l2).Nodup:=by
 rw[b1k];exact⟨h1,h2,λ x hx y hy e=>h3 x hx (e ▸ hy)⟩
theorem PD(h:bH c G sl n lk a w):∀ {cs:List AV} {ts:List Ty} {us:List TV} {ids:List Nat} {l:List Value},wH lk cs ts=some (us,ids)->bf (C1 c G lk w) cs l->ids.Nodup ->
  ∃ fp,dE w (us.map TV.bc) l fp/\fp.Nodup/\(∀ b∈fp,yG G lk ids b)/\us.map TV.τ=ts
 | [],[],us,ids,l,ht,hl,_=>by
  simp only[wH,b0L,b0O] at ht;obtain⟨rfl,rfl⟩:=ht;match l,hl with
  | [],_=>exact⟨[],⟨rfl,rfl⟩,b2c,by simp,rfl⟩
 | cc::cs,t::ts,us,ids,l,ht,hl,dt=>by
  simp only[wH] at ht;split at ht
  .rename_i x i hx;split at ht
   .rename_i r j hr;simp only[b0L,b0O] at ht;obtain⟨rfl,rfl⟩:=ht;match l,hl with
    | v::l,hl =>
     rw[b1k] at dt;obtain⟨n1,n2,n3⟩:=dt;obtain⟨f1,a1,a2,a3⟩:=Co h hx hl.1;obtain⟨f2,b1,b2,b3,b4⟩:=PD h hr hl.2 n2;refine⟨f1++f2,⟨v,l,f1,f2,rfl,rfl,a1,b1⟩,fK a2 b2 λ b hb cO=>h.mN (a3 b hb) (b3 b cO) (λ x hx y hy=>n3 x hx y hy),λ b hb=>?_,by simp[b4]⟩;rcases b0Q.1 hb with hb|hb
     .exact (a3 b hb).mono λ k hk=>by simp[hk]
     .exact (b3 b hb).mono λ k hk=>by simp[hk]
   .cases ht
  .cases ht
 | [],_::_,_,_,_,ht,_,_=>by cases ht
 | _::_,[],_,_,_,ht,_,_=>by cases ht
theorem qV(h:bH c G sl n lk a w){τ:Ty}{v:AV}{x:Value}{y:τ.den}{ids:List Nat}(ht:vm lk τ v=some (y,ids))(hv:VR c G lk w v x)(dt:ids.Nodup):∃ fp,Dh w ⟨τ,y⟩ x fp/\fp.Nodup/\∀ b∈fp,yG G lk ids b:=by
 have one:(∀ cs,v ≠ .agg cs)->fF lk τ v=some (y,ids)->∃ fp,Dh w ⟨τ,y⟩ x fp/\fp.Nodup/\∀ b∈fp,yG G lk ids b:=by
  intro hna ht;have cI:∀ s,τ ≠ .st s:=λ s e=>by
   subst e;cases v with
   | aT u=>simp[fF,Ty.Cn] at ht
   | nil=>simp[fF] at ht
   | aD id =>
    simp only[fF] at ht;split at ht
    .split at ht
     .rename_i hy;have e:=TV.bj hy;cases e
     .cases ht
    .cases ht
   | row id =>
    simp only[fF] at ht;split at ht
    .split at ht
     .rename_i hy;have e:=TV.bj hy;cases e
     .cases ht
    .cases ht
   | _=>cases ht
  have hc:C1 c G lk w v x:=by
   refine hv.Yf ?_;cases v with
   | aT u =>
    simp only[fF] at ht;split at ht
    .rename_i hy;have e:=TV.bj hy;subst e;cases τ<;>first|rfl|exact absurd rfl (cI _)
    .cases ht
   | nil=>rfl
   | aD id=>rfl
   | row id=>rfl
   | _=>cases ht
  obtain⟨fp,h1,h2,h3⟩:=Co h ht hc;refine⟨fp,?_,h2,h3⟩;cases τ with
  | st s=>exact absurd rfl (cI s)
  | _=>exact h1
 cases v with
 | agg cs =>
  cases τ with
  | st s =>
   simp only[vm] at ht;split at ht
   .rename_i us i oR;split at ht
    .rename_i y' hy;simp only[b0L,b0O] at ht;obtain⟨rfl,rfl⟩:=ht;obtain⟨l,rfl,hl⟩:=hv;obtain⟨fp,h1,h2,h3,_⟩:=PD h oR hl dt;refine⟨fp,⟨l,rfl,?_⟩,h2,h3⟩;rw[aY.cP,aY.sF hy];exact h1
    .cases ht
   .cases ht
  | _=>cases ht
 | _=>exact one (by intro cs;simp) ht
theorem dE.split:∀ (ds:List D) {l:List Value} {fp:List Nat} (i:Nat) (d:D),dE w ds l fp->ds[i]?=some d ->
  ∃ v f0 f1 f2,fp=f0++f1++f2/\l[i]?=some v/\Ow w d [v] f1/\∀ (w':World) (d':D) (v':Value) (mc:List Nat),(∀ b∈f0++f2,w'.heap[b]?=w.heap[b]?)->Ow w' d' [v'] mc->dE w' (ds.set i d') (l.set i v') (f0++mc++f2)
 | [],_,_,_,_,_,hi=>by simp at hi
 | e::ds,_,_,0,d,h,hi=>by
  obtain⟨v,r,f1,f2,rfl,rfl,h3,h4⟩:=h;simp at hi;subst hi;exact⟨v,[],f1,f2,by simp,rfl,h3,λ w' d' v' mc hw hd=>⟨v',r,mc,f2,rfl,by simp,hd,dE.bd ds h4 λ b hb=>hw b (by simp[hb])⟩⟩
 | e::ds,_,_,i+1,d,h,hi=>by
  obtain⟨v,r,g1,g2,rfl,rfl,h3,h4⟩:=h;obtain⟨u,f0,f1,f2,rfl,k1,k2,k3⟩:=dE.split ds i d h4 (by simpa using hi);refine⟨u,g1++f0,f1,f2,by simp,by simpa using k1,k2,λ w' d' v' mc hw hd=>?_⟩;exact⟨v,r.set i v',g1,f0++mc++f2,rfl,by simp,Ow.bd e h3 λ b hb=>hw b (by simp[hb]),k3 w' d' v' mc (λ b hb=>hw b (by simp at hb ⊢;rcases hb with hb|hb<;>simp[hb])) hd⟩
theorem Sj(v:AV):v.dM=v\/v.dM = .any:=by unfold AV.dM;split<;>simp
theorem K7(v:AV):v.dM.PC=false:=by
 unfold AV.dM;split
 .rfl
 .assumption
theorem Sy:∀ cs:List AV,AV.tA (cs.map AV.dM)=false
 | []=>rfl
 | v::r=>by simp only[b1J,AV.tA,K7];exact Sy r
theorem C1.dM{v:AV}{x:Value}(h:C1 c G lk w v x):C1 c G lk w v.dM x:=by
 rcases Sj v with e|e
 .rw[e];exact h
 .rw[e];trivial
theorem Lo(o:Option aG):gw o (o.map aG.dM):=by
 refine⟨λ h=>?_,λ e τ xs h=>⟨e,xs,by rw[h];rfl,b1E _⟩,λ h=>?_,λ h=>?_⟩
 .match o,h with
  | some (.box cs),_=>rfl
 .match o,h with
  | some (.aD τ xs),_=>rfl
 .match o,h with
  | some (.map m),_=>rfl
theorem Cd{o:Option aG}{τ:Ty}{xs:List τ.den}(h:o.map aG.dM=some (.aD τ xs)):o=some (.aD τ xs):=by
 match o,h with
 | some (.aD bw dw),h=>exact h
 | some (.box _),h=>cases h
 | some (.row ..),h=>cases h
theorem bH.cv(h:bH c G sl n lk a w):bH c G (λ i=>(sl i).dM) n (λ i=>(lk i).map aG.dM) a w:=by
 have h1:bH c G (λ i=>(sl i).dM) n lk a w:=h.forget λ i=>Sj (sl i);exact {
  defers:=h1.defers,size:=h1.size,bd:=h1.bd,oB:=h1.oB,gh:=h1.gh,sX:=h1.sX,eV:=h1.eV
  aE:=λ i=>(h1.aE i).mono (λ j _=>⟨Lo _,rfl⟩) (λ _ h=>h) (λ _ _=>rfl)
  aR:=λ i o ho=>by
   rw[b1M] at ho;obtain⟨o',dj,rfl⟩:=ho;have hk:OR c G lk w i o'.dM:=by
    have:=h1.aR i o' dj;cases o' with
    | box cs =>
     obtain⟨b,l,t,k1,k2,k3⟩:=this;exact⟨b,l,t,k1,k2,bf.fX _ (k3.imp λ u y _ hy=>hy.dM)⟩
    | row e τ xs=>exact this
    | aD τ xs=>exact this
    | map m=>exact this
   exact hk.mono rfl (λ _ _=>rfl) (λ j _=>⟨Lo _,rfl⟩) (λ _ h=>h) (λ _ _=>rfl)
  place:=λ i o b ho hb=>by
   rw[b1M] at ho;obtain⟨o',dj,rfl⟩:=ho;exact h1.place i o' b dj hb
  apart:=λ i j o o' b ho dj hb cO=>by
   rw[b1M] at ho dj;obtain⟨p,hp,rfl⟩:=ho;obtain⟨q,hq,rfl⟩:=dj;exact h1.apart i j p q b hp hq hb cO
  aW:=h1.aW.sub (λ i τ xs k=>Cd k) (λ i o k=>by
   rw[b1M] at k;obtain⟨p,hp,_⟩:=k;exact⟨p,hp⟩)
  root:=λ i v hr ht=>h1.root i v hr (by
   match hl:lk i,ht with
   | some (.aD ..),_=>rfl
   | some (.box _),ht=>simp[hl,aG.dM,cN] at ht
   | some (.row ..),ht=>simp[hl,aG.dM,cN] at ht
   | none,ht=>simp[hl,cN] at ht)
  mG:=h1.mG
  ep:=λ i v hr ht=>h1.ep i v hr (by
   match hl:lk i,ht with
   | some (.box _),_=>rfl
   | some (.aD ..),ht=>simp[hl,aG.dM,jG] at ht
   | some (.row ..),ht=>simp[hl,aG.dM,jG] at ht
   | none,ht=>simp[hl,jG] at ht)
  hH:=h1.hH }
end
section
variable {c:Ctx} {G:Gh} {s:ai} {a:Act} {w w':World}
theorem Wg(s:ai):s.cv.sl=λ i=>(s.sl i).dM:=by
 funext i;simp only[ai.sl,ai.cv,b1f,b2F];cases s.aE[i]?<;>rfl
theorem oW(s:ai):s.cv.ah=λ i=>(s.ah i).map aG.dM:=by
 funext i;exact Jx _ _ _
theorem Inv.cv(h:Inv c G s a w):Inv c G s.cv a w/\(∀ i,(s.cv.sl i).PC=false)/\∀ id cs,s.cv.ah id=some (.box cs)->AV.tA cs=false:=by
 refine⟨?_,λ i=>by rw[Wg];exact K7 _,λ id cs bm=>?_⟩
 .unfold Inv;rw[Wg,oW,show s.cv.aE.length=s.aE.length from by simp[ai.cv]];exact bH.cv h
 .rw[oW] at bm;simp only[b1M] at bm;obtain⟨o,_,ho⟩:=bm;cases o with
  | box eJ=>cases ho;exact Sy eJ
  | row e τ xs=>cases ho
  | aD τ xs=>cases ho
  | map m=>cases ho
theorem Inv.TZ(h:Inv c G s a w){A:List (Nat×TE)}(hA:∀ p∈A,ZC G s.ah w' p.1 p.2)(a1y:∀ p∈A,∀ b∈p.2.2.1,(∃ q∈A,b∈G.φ q.1)\/yF c G s.ah w' b)(YM:∀ p∈A,∀ q∈A,∀ b∈p.2.2.1,b∈q.2.2.1->p.1=q.1)(dt:(A.map (·.1)).Nodup)
  {F:Nat->Prop} (hk:bV F w w') (hF:∀ b,F b->∃ p∈A,b∈G.φ p.1) {t:ai} (hts:t.aE=s.cv.aE) (GX:∀ i,t.ah i=Tm A s.cv.ah i) {d:Option Nat} {v:AV} {x:Value} (hv:∀ G' lk,VR c G' lk w' v x) :
  ∃ G',Inv c G' (t.put d v) (a.put d x) w':=by
 obtain⟨h1,h2,h3⟩:=h.cv;have hA':∀ p∈A,ZC G s.cv.ah w' p.1 p.2:=λ p hp=>by
  obtain⟨τ,xs,dw,v,l,l',k1,k2⟩:=(hA p hp).ex;exact⟨τ,xs,dw,v,l,l',by rw[oW];simp[k1,aG.dM],k2⟩
 have a6u:∀ p∈A,∀ b∈p.2.2.1,(∃ q∈A,b∈G.φ q.1)\/yF c G s.cv.ah w' b:=λ p hp b hb=>(a1y p hp b hb).imp id λ ⟨q1,q2,q3,q4,q5⟩ =>
  ⟨q1,q2,q3,λ i o hi=>by
   rw[oW] at hi;simp only[b1M] at hi;obtain⟨o',dj,_⟩:=hi;exact q4 i o' dj,λ j τ xs hj=>q5 j τ xs (by rw[oW] at hj;exact Cd hj)⟩
 have T:=KL.ofList (c:=c) (w:=w) hA' a6u YM dt (λ b hb hn=>hk.block b hb λ hf=>by
  obtain⟨p,hp,hbp⟩:=hF b hf;exact hn p hp hbp) hk.os hk.tape hk.output hk.size
 have hI:=bH.ib h1 T h2 h3;refine⟨_,Inv.put (G:=⟨G.S,Ja A G,Cp A G⟩) ?_ (hv _ _)⟩;unfold Inv;rw[show t.sl=s.cv.sl from by funext i;simp only[ai.sl,hts],show t.ah=Tm A s.cv.ah from funext GX,hts];exact hI
theorem PF(id:Nat)(e:TE)(lk:Nat->Option aG)(i:Nat):Tm [(id,e)] lk i=if i=id then some e.2.2 else lk i:=by
 unfold Tm;simp only[ah];by_cases hi:i=id
 .subst hi;simp
 .have:Nat.beq id i=false:=by
   cases hb:Nat.beq id i with
   | false=>rfl
   | true=>exact absurd (b0P hb).symm hi
  simp[this,hi]
theorem iU(s:ai)(id:Nat)(τ:Ty)(xs:List τ.den)(i:Nat):(s.eQ id τ xs).ah i=if i=id then some (.aD τ xs) else s.ah i:=by
 show ah ((id,_)::cf id s.aR) i=_;rw[eK,gq];by_cases hi:i=id
 .simp[hi]
 .simp[hi];rfl
theorem Pt{lk:Nat->Option aG}{k:Int}(h:U k):VR c G lk w (.aT ⟨.int .i64,k⟩) (.int .i64 k):=by
 refine⟨rfl,?_⟩;simp only[IntKind.min,IntKind.max,IntKind.signed,IntKind.bits,b2D];obtain⟨q1,q2⟩:=h;constructor<;>omega
theorem UQ(h:Inv c G s a w){b:Nat}(h1:w.heap.size<=b)(h2:b<w'.heap.size):yF c G s.ah w' b:=by
 have:=h.bd.size;refine⟨.inl (by omega),λ hs=>by have:=h.eV b hs;omega,h2,λ i o hi uC=>by have:=(h.place i o b hi uC).2.2;omega,λ j τ xs hj rU=>by have:=(h.aW.pl j τ xs b hj rU).2.2.1;omega⟩
theorem S7(hE:bU c.P c.E)(h:Inv c G s a w){o:Oper}{f:FuncId}{τ:Ty}{g:(Ty.slice τ).den->Int->Vc×(Ty.slice τ).den×Int}(hm:c.E.mark f=some ⟨.slice τ,g⟩){id:Nat}{xs:List τ.den}(bm:s.ah id=some (.aD τ xs)){k:Int}{v z:Value}{d:Nat}
  (hv:VR c G s.ah w (.aD id) v) (hz:VR c G s.ah w (.aT ⟨.int .i64,k⟩) z) (zS:(g xs k).1.ok) (hd:o.dst=some d) (c9:oC c.P f->(execOp a.eval o).run c.P w = .ok (.enter f [v,z].toArray) w) {Q:Exit->Act->World->Prop} :
  o.wp c.P a w (λ a' w'=>∃ G',Inv c G' ((s.cv.eQ id τ (g xs k).2.1).put (some d) (.aT ⟨.int .i64,(g xs k).2.2⟩)) a' w') Q:=by
 obtain⟨rV,mM⟩:=hE.mark f _ hm;obtain⟨hz1,hz2,hz3⟩:=hz;simp only[b0T,b1b] at hz1;subst hz1;obtain⟨_,l,gH,Kk⟩:=hv;have hO:=Ow.a5G (h.aW.tr id τ xs bm) gH;have a0f:U k:=by
  simp only[IntKind.min,IntKind.max,IntKind.signed,IntKind.bits,b2D] at hz2 hz3;constructor<;>omega
 unfold Oper.wp;rw[c9 rV];simp only[Oper.upon];refine (mM xs k w v (G.φ id) zS a0f (h.a4R λ b hb=>(h.aW.pl id τ xs b bm hb).2.1) hO (h.aW.nd id τ xs bm) λ b hb=>(h.aW.pl id τ xs b bm hb).2.2.1).mono ?_;rintro e w' ⟨rfl,gT,hk,yM,uh,Sg,wV⟩;obtain⟨l',hT,_⟩:=l6.Zg (τ:=τ) uh;rw[hd];show ∃ G',Inv c G' ((s.cv.eQ id τ (g xs k).2.1).put (some d) (.aT ⟨.int .i64,(g xs k).2.2⟩)) (a.put (some d) (.int .i64 (g xs k).2.2)) w';refine h.TZ (w':=w') (t:=s.cv.eQ id τ (g xs k).2.1) (A:=[(id,(.tuple (v::l').toArray,yM, .aD τ (g xs k).2.1))]) ?_ ?_ ?_ (by simp) hk (λ b hb=>⟨_,List.mem_singleton.2 rfl,hb⟩) rfl (λ i=>?_) (λ G' lk=>Pt gT)
 .intro p hp;simp only[b1x] at hp;subst hp;exact⟨τ,xs,_,v,l,l',bm,rfl,gH,rfl,hT,Sg⟩
 .intro p hp b hb;simp only[b1x] at hp;subst hp;rcases wV b hb with q|q
  .exact .inl ⟨_,b1x.2 rfl,q⟩
  .exact .inr (UQ h q.1 q.2)
 .intro p hp q hq b _ _;simp only[b1x] at hp hq;rw[hp,hq]
 .rw[PF,iU]
theorem Cj{f0 f1 f2 mc:List Nat}(h:(f0++f1++f2).Nodup)(h1:mc.Nodup)(hs:∀ b∈mc,b∈f1\/(b∉f0/\b∉f2)):(f0++mc++f2).Nodup:=by
 rw[b1k,b1k] at h;obtain⟨⟨a1,a2,a3⟩,a4,a5⟩:=h;refine fK (fK a1 h1 λ x hx DY=>(hs x DY).elim (λ q=>a3 x hx x q rfl) λ q=>q.1 hx) a4 λ x hx DY=>?_;rcases b0Q.1 hx with hx|hx
 .exact a5 x (by simp[hx]) x DY rfl
 .exact (hs x hx).elim (λ q=>a5 x (by simp[q]) x DY rfl) λ q=>q.2 DY
theorem Su{w:World}{τ KJ:Ty}{x:τ.den}{off:Nat}{u:TV}(hu:TV.part ⟨τ,x⟩ off KJ=some u)(cI:KJ.agg=false){ce:List Value}{fp:List Nat}(hO:Ow w (τ.bc x) ce fp) :
  ∃ v f0 f1 f2,fp=f0++f1++f2/\ce[off]?=some v/\Ow w u.bc [v] f1/\∀ (w':World) (u':TV) (y:τ.den) (v':Value) (mc:List Nat),pI τ x off u'=some y->(∀ b∈f0++f2,w'.heap[b]?=w.heap[b]?)->Ow w' u'.bc [v'] mc->Ow w' (τ.bc y) (ce.set off v') (f0++mc++f2):=by
 cases τ with
 | st s =>
  have xM:(s.cells x)[off]?=some u:=by
   unfold TV.part at hu;split at hu
   .rename_i hb;simp only[b0R] at hb;have:=b1z hb.2;have e:Ty.st s=KJ:=this;subst e;cases cI
   .split at hu
    .rename_i z hz;split at hu
     .simp only[b0L] at hu;subst hu;exact hz
     .cases hu
    .cases hu
  rw[show Ty.bc (.st s) x=s.bc x from rfl,aY.cP] at hO;obtain⟨v,f0,f1,f2,h1,h2,h3,h4⟩:=dE.split _ off u.bc hO (by rw[b2F,xM];rfl);refine⟨v,f0,f1,f2,h1,h2,h3,λ w' u' y v' mc hp hw uh=>?_⟩;simp only[pI,xM] at hp;split at hp
  .have hy:=aY.sF hp;rw[show Ty.bc (.st s) y=s.bc y from rfl,aY.cP,hy,b3M];exact h4 w' u'.bc v' mc hw uh
  .cases hp
 | slice t =>
  have sq:off=0/\u=⟨.slice t,x⟩:=by
   unfold TV.part at hu;split at hu
   .rename_i hb;simp only[b0R] at hb;simp only[b0L] at hu;exact⟨b0P hb.1,hu.symm⟩
   .split at hu
    .rename_i z hz;cases off with
     | zero=>simp[TV.cells] at hz;subst hz;split at hu<;>simp_all
     | succ k=>simp[TV.cells] at hz
    .cases hu
  obtain⟨rfl,rfl⟩:=sq;have hl:=Ow.length _ hO;match ce,hl with
  | [v],_ =>
   refine⟨v,[],fp,[],by simp,rfl,hO,λ w' u' y v' mc hp _ uh=>?_⟩;simp only[pI] at hp;have e:=TV.bj hp;subst e;rw[b1F,b2h];exact uh
 | mv t =>
  have sq:off=0/\u=⟨.mv t,x⟩:=by
   unfold TV.part at hu;split at hu
   .rename_i hb;simp only[b0R] at hb;simp only[b0L] at hu;exact⟨b0P hb.1,hu.symm⟩
   .split at hu
    .rename_i z hz;cases off with
     | zero=>simp[TV.cells] at hz;subst hz;split at hu<;>simp_all
     | succ k=>simp[TV.cells] at hz
    .cases hu
  obtain⟨rfl,rfl⟩:=sq;have hl:=Ow.length _ hO;rw[Ty.dn] at hl;match ce,hl with
  | [v],_ =>
   refine⟨v,[],fp,[],by simp,rfl,hO,λ w' u' y v' mc hp _ uh=>?_⟩;simp only[pI] at hp;have e:=TV.bj hp;subst e;rw[b1F,b2h];exact uh
 | ptr =>
  have sq:off=0/\u=⟨.ptr,x⟩:=by
   unfold TV.part at hu;split at hu
   .rename_i hb;simp only[b0R] at hb;simp only[b0L] at hu;exact⟨b0P hb.1,hu.symm⟩
   .split at hu
    .rename_i z hz;cases off with
     | zero=>simp[TV.cells] at hz;subst hz;split at hu<;>simp_all
     | succ k=>simp[TV.cells] at hz
    .cases hu
  obtain⟨rfl,rfl⟩:=sq;have hl:=Ow.length _ hO;rw[Ty.dn] at hl;match ce,hl with
  | [v],_ =>
   refine⟨v,[],fp,[],by simp,rfl,hO,λ w' u' y v' mc hp _ uh=>?_⟩;simp only[pI] at hp;have e:=TV.bj hp;subst e;rw[b1F,b2h];exact uh
 | int k =>
  have sq:off=0/\u=⟨.int k,x⟩:=by
   unfold TV.part at hu;split at hu
   .rename_i hb;simp only[b0R] at hb;simp only[b0L] at hu;exact⟨b0P hb.1,hu.symm⟩
   .split at hu
    .rename_i z hz;cases off with
     | zero=>simp[TV.cells] at hz;subst hz;split at hu<;>simp_all
     | succ k=>simp[TV.cells] at hz
    .cases hu
  obtain⟨rfl,rfl⟩:=sq;have hl:=Ow.length _ hO;match ce,hl with
  | [v],_ =>
   refine⟨v,[],fp,[],by simp,rfl,hO,λ w' u' y v' mc hp _ uh=>?_⟩;simp only[pI] at hp;have e:=TV.bj hp;subst e;rw[b1F,b2h];exact uh
 | bool =>
  have sq:off=0/\u=⟨.bool,x⟩:=by
   unfold TV.part at hu;split at hu
   .rename_i hb;simp only[b0R] at hb;simp only[b0L] at hu;exact⟨b0P hb.1,hu.symm⟩
   .split at hu
    .rename_i z hz;cases off with
     | zero=>simp[TV.cells] at hz;subst hz;split at hu<;>simp_all
     | succ k=>simp[TV.cells] at hz
    .cases hu
  obtain⟨rfl,rfl⟩:=sq;have hl:=Ow.length _ hO;match ce,hl with
  | [v],_ =>
   refine⟨v,[],fp,[],by simp,rfl,hO,λ w' u' y v' mc hp _ uh=>?_⟩;simp only[pI] at hp;have e:=TV.bj hp;subst e;rw[b1F,b2h];exact uh
 | str =>
  have sq:off=0/\u=⟨.str,x⟩:=by
   unfold TV.part at hu;split at hu
   .rename_i hb;simp only[b0R] at hb;simp only[b0L] at hu;exact⟨b0P hb.1,hu.symm⟩
   .split at hu
    .rename_i z hz;cases off with
     | zero=>simp[TV.cells] at hz;subst hz;split at hu<;>simp_all
     | succ k=>simp[TV.cells] at hz
    .cases hu
  obtain⟨rfl,rfl⟩:=sq;have hl:=Ow.length _ hO;match ce,hl with
  | [v],_ =>
   refine⟨v,[],fp,[],by simp,rfl,hO,λ w' u' y v' mc hp _ uh=>?_⟩;simp only[pI] at hp;have e:=TV.bj hp;subst e;rw[b1F,b2h];exact uh
theorem a0J(l:List Value)(o n k:Nat)(v:Value)(hk:k<n)(hl:o+n<=l.length):l.take o++((l.drop o).take n).set k v++l.drop (o+n)=l.set (o+k) v:=by
 conv=>rhs;rw[<-b2f o l]
 rw[List.set_append_right _ _ (by simp;omega),b1P];congr 1;have e:o+k - (List.take o l).length=k:=by rw[b1C];omega
 rw[e];conv=>rhs;rw[<-b2f n (l.drop o)]
 rw[List.set_append_left _ _ (by rw[b1C,b1Y];omega),b2u]
theorem Wq{w:World}{η:Value}{τ KJ:Ty}{xs:List τ.den}{fp:List Nat}(hT:l6 w η τ xs fp)(dt:fp.Nodup){a0:Option Addr}{n cap:Nat}{l:List Value}(gH:η = .tuple (.slice a0 n cap::l).toArray){i off:Nat}(hi:i<n){u:TV}
  (hu:TV.part ⟨τ,xs.getD i τ.zero⟩ off KJ=some u) (cI:KJ.agg=false) (sq:off<τ.size):n=xs.length /\
  ∃ v f1,l[i * τ.size+off]?=some v/\Ow w u.bc [v] f1/\f1.Nodup/\(∀ b∈f1,b∈fp)/\∀ (w':World) (u':TV) (y:τ.den) (v':Value) (mc:List Nat),pI τ (xs.getD i τ.zero) off u'=some y->(∀ b∈fp,b∉f1->(a0=some ⟨b,0,none⟩->∃ t,w'.heap[b]?=some (.cells (l.set (i * τ.size+off) v').toArray t (0,0)))/\(a0≠some ⟨b,0,none⟩->w'.heap[b]?=w.heap[b]?))->Ow w' u'.bc [v'] mc->mc.Nodup->(∀ b∈mc,b∈f1\/b∉fp) ->
   ∃ yM,l6 w' (.tuple (.slice a0 n cap::l.set (i * τ.size+off) v').toArray) τ (xs.set i y) yM/\yM.Nodup/\∀ b∈yM,b∈fp\/b∈mc:=by
 obtain⟨v0,l0,a1,Xo,h1,h2,h3,h4,h5,h6⟩:=hT;rw[gH] at h1;simp only[b2r] at h1;have h1:(Value.slice a0 n cap::l)=v0::l0:=congrArg Array.toList h1;simp only[b0T] at h1;obtain⟨hq,Ig⟩:=h1;subst Ig;rw[h2] at hq;simp only[b2w] at hq;obtain⟨rfl,rfl,rfl⟩:=hq;rcases h6 with ⟨rfl,_,_⟩|⟨b,f,t,rfl,rfl,k1,k0,k2⟩
 .simp at hi
 .have dh:∀ d∈xs.map τ.bc,d.size=τ.size:=by
   intro d hd;obtain⟨z,_,rfl⟩:=b0S.1 hd;exact Ty.dn τ z
  obtain⟨g0,g1,g2,rfl,hlen,m1,m2⟩:=cm.split (xs.map τ.bc) i (τ.bc (xs.getD i τ.zero)) k2 dh (by simp[List.getD,hi]);obtain⟨v,p0,p1,p2,rfl,q1,q2,q3⟩:=Su hu cI m1;have hvl:l[i * τ.size+off]?=some v:=by
   rw[b2p,b1q sq,b2B] at q1;exact q1
  rw[b1G] at dt;obtain⟨hb,dt⟩:=dt;have Sh:(p0++p1++p2).Nodup:=by
   rw[b1k,b1k] at dt;exact dt.1.2.1
  have hp1:p1.Nodup:=by
   rw[b1k,b1k] at Sh;exact Sh.1.2.1
  refine⟨rfl,v,p1,hvl,q2,hp1,λ b hb=>by simp[hb],λ w' u' y v' mc hp hw uh CI hs'=>?_⟩;have dis:∀ c∈g0++(p0++p1++p2)++g2,c∉p1->w'.heap[c]?=w.heap[c]?:=λ c hc hn=>(hw c (b2t _ hc) hn).2 λ e=>by
   simp only[b0L,b2J,b1b] at e;subst e;exact hb hc
  have gT:∀ c,c∈p1->c∈p0++p1++p2:=λ c hc=>by simp[hc]
  rw[b1k,b1k] at dt;obtain⟨⟨n1,n2,n3⟩,n4,n5⟩:=dt;have h0:∀ c∈g0++g2,c∉p1:=λ c hc SU=>by
   rcases b0Q.1 hc with hc|hc
   .exact n3 c hc c (gT c SU) rfl
   .exact n5 c (b0Q.2 (.inr (gT c SU))) c hc rfl
  have h00:∀ c∈p0++p2,c∉p1:=λ c hc SU=>by
   rw[b1k,b1k] at Sh;rcases b0Q.1 hc with hc|hc
   .exact Sh.1.2.2 c hc c SU rfl
   .exact Sh.2.2 c (by simp[SU]) c hc rfl
  have hy:=q3 w' u' y v' mc hp (λ c hc=>dis c (by simp at hc ⊢;rcases hc with hc|hc<;>simp[hc]) (h00 c hc)) uh;have gO:=m2 w' (τ.bc y) _ (p0++mc++p2) (λ c hc=>dis c (by simp at hc ⊢;rcases hc with hc|hc<;>simp[hc]) (h0 c hc)) (by simp only[List.length_set,List.length_take,List.length_drop];omega) hy;rw[a0J l _ _ _ v' sq hlen,<-List.map_set] at gO;obtain⟨t',S2⟩:=(hw b (by simp) λ hc=>hb (by simp[hc])).1 rfl;refine⟨b::(g0++(p0++mc++p2)++g2),⟨_,_,_,cap,rfl,by simp,by simpa using h3,h4,by simpa using h5, .inr ⟨b,_,t',rfl,rfl,S2,by rw[List.length_set];exact k0,gO⟩⟩,?_,?_⟩
  .have YS:∀ c∈mc,c∈p1\/(c∉p0/\c∉p2):=λ c hc=>(hs' c hc).imp id λ q=>⟨λ q'=>q (by simp[q']),λ q'=>q (by simp[q'])⟩;have wV:∀ c∈p0++mc++p2,c∈p0++p1++p2\/(c∉g0/\c∉g2):=λ c hc=>by
    simp only[b0Q] at hc;rcases hc with (hc|hc)|hc
    .exact .inl (by simp[hc])
    .rcases hs' c hc with q|q
     .exact .inl (by simp[q])
     .exact .inr ⟨λ q'=>q (by simp[q']),λ q'=>q (by simp[q'])⟩
    .exact .inl (by simp[hc])
   rw[b1G];refine⟨λ hc=>?_,Cj (f1:=p0++p1++p2) (fK (fK n1 n2 λ x hx DY=>n3 x hx x DY rfl) n4 λ x hx DY=>n5 x hx x DY rfl) (Cj Sh CI YS) wV⟩;simp only[b0Q] at hc;rcases hc with (hc|(hc|hc)|hc)|hc
   .exact hb (by simp[hc])
   .exact hb (by simp[hc])
   .rcases hs' b hc with q|q
    .exact hb (by simp[q])
    .exact q (by simp)
   .exact hb (by simp[hc])
   .exact hb (by simp[hc])
  .intro c hc;simp only[b1e,b0Q] at hc;rcases hc with hc|(hc|(hc|hc)|hc)|hc
   .exact .inl (by simp[hc])
   .exact .inl (by simp[hc])
   .exact .inl (by simp[hc])
   .exact .inr hc
   .exact .inl (by simp[hc])
   .exact .inl (by simp[hc])
theorem Y2{lk:Nat->Option aG}{k:Int}{z:Value}(hz:VR c G lk w (.aT ⟨.int .i64,k⟩) z):z = .int .i64 k/\U k:=by
 obtain⟨h1,h2,h3⟩:=hz;simp only[b0T,b1b] at h1;refine⟨h1,?_⟩;simp only[IntKind.min,IntKind.max,IntKind.signed,IntKind.bits,b2D] at h2 h3;constructor<;>omega
theorem Vz(hE:bU c.P c.E)(h:Inv c G s a w){o:Oper}{f:FuncId}{m:FQ}(hm:c.E.mark f=some m){id i off:Nat}{τ:Ty}{xs:List τ.den}(bm:s.ah id=some (.aD τ xs)){u:TV}(hu:TV.part ⟨τ,xs.getD i τ.zero⟩ off m.τ=some u){x:m.τ.den}(hx:u.Z9 m.τ=some x)
  (yp:m.τ.agg=false) (sq:off<τ.size) {k:Int} {y:τ.den} (hy:pI τ (xs.getD i τ.zero) off ⟨m.τ,(m.g x k).2.1⟩=some y) {v z:Value} {d:Nat}
  (hv:VR c G s.ah w (.sub id i off τ.size) v) (hz:VR c G s.ah w (.aT ⟨.int .i64,k⟩) z) (zS:(m.g x k).1.ok) (hd:o.dst=some d) (c9:oC c.P f->(execOp a.eval o).run c.P w = .ok (.enter f [v,z].toArray) w) {Q:Exit->Act->World->Prop} :
  o.wp c.P a w (λ a' w'=>∃ G',Inv c G' ((s.cv.eQ id τ (xs.set i y)).put (some d) (.aT ⟨.int .i64,(m.g x k).2.2⟩)) a' w') Q:=by
 obtain⟨rV,mM⟩:=hE.mark f _ hm;obtain⟨rfl,a0f⟩:=Y2 hz;obtain⟨_,a0,n,cap,l,gH,gT,hl,_⟩:=hv;have hux:=TV.bj hx;subst hux;obtain⟨rfl,v',f1,p1,p2,p3,p4,p5⟩:=Wq (h.aW.tr id τ xs bm) (h.aW.nd id τ xs bm) gH gT hu yp sq;rw[hl] at p1;simp only[b0L] at p1;subst p1;have hO:Dh w ⟨m.τ,x⟩ v f1:=by
  obtain⟨KJ,g⟩:=m;cases KJ with
  | st s=>cases yp
  | _=>exact p2
 unfold Oper.wp;rw[c9 rV];simp only[Oper.upon];refine (mM x k w v f1 zS a0f (h.a4R λ b hb=>(h.aW.pl id τ xs b bm (p4 b hb)).2.1) hO p3 λ b hb=>(h.aW.pl id τ xs b bm (p4 b hb)).2.2.1).mono ?_;rintro e w' ⟨rfl,U6,hk,mc,uh,Sg,wV⟩;have hO2:Ow w' (TV.bc ⟨m.τ,(m.g x k).2.1⟩) [v] mc:=by
  obtain⟨KJ,g⟩:=m;cases KJ with
  | st s=>cases yp
  | _=>exact uh
 have zT:l.set (i * τ.size+off) v=l:=by
  apply b3F;intro j;rw[b3G];split
  .rename_i e;subst e;split
   .exact hl.symm
   .rename_i hn;rw[b2X (by omega)]
  .rfl
 obtain⟨yM,hT,a5e,hs2⟩:=p5 w' ⟨m.τ,(m.g x k).2.1⟩ y v mc hy (λ b hb hn=>by
  have gV:=hk.block b (h.aW.pl id τ xs b bm hb).2.2.1 hn;refine⟨λ ha=>?_,λ _=>gV⟩;rw[gV,zT];obtain⟨v0,l0,a1,Xo,q1,q2,_,_,_,q6⟩:=h.aW.tr id τ xs bm;rw[gH] at q1;simp only[b2r] at q1;have q1:(Value.slice a0 xs.length cap::l)=v0::l0:=congrArg Array.toList q1;simp only[b0T] at q1;obtain⟨r1,r2⟩:=q1;subst r2;rw[q2,ha] at r1;simp only[b2w] at r1;rcases q6 with ⟨_,q7,_⟩|⟨b',f,t,q7,q8,q9,_⟩
  .rw[q7.1] at r1;cases r1.1
  .rw[q7] at r1;have r1:=r1.1;simp only[b0L,b2J,b1b] at r1;subst r1;exact⟨t,q9⟩) hO2 Sg (λ b hb=>(wV b hb).imp (λ q=>q) λ q q'=>by have:=(h.aW.pl id τ xs b bm q').2.2.1;omega)
 rw[zT,<-gH] at hT;show ∃ G',Inv c G' ((s.cv.eQ id τ (xs.set i y)).put (some d) (.aT ⟨.int .i64,(m.g x k).2.2⟩)) (a.put o.dst (.int .i64 (m.g x k).2.2)) w';rw[hd];refine h.TZ (w':=w') (t:=s.cv.eQ id τ (xs.set i y)) (A:=[(id,(G.η id,yM, .aD τ (xs.set i y)))]) ?_ ?_ ?_ (by simp) hk (λ b hb=>⟨_,b1x.2 rfl,p4 b hb⟩) rfl (λ i=>?_) (λ G' lk=>Pt U6)
 .intro p hp;simp only[b1x] at hp;subst hp;exact⟨τ,xs,_,_,l,l,bm,rfl,gH,gH,hT,a5e⟩
 .intro p hp b hb;simp only[b1x] at hp;subst hp;rcases hs2 b hb with q|q
  .exact .inl ⟨_,b1x.2 rfl,q⟩
  .rcases wV b q with q|q
   .exact .inl ⟨_,b1x.2 rfl,p4 b q⟩
   .exact .inr (UQ h q.1 q.2)
 .intro p hp q hq b _ _;simp only[b1x] at hp hq;rw[hp,hq]
 .rw[PF,iU]
theorem Nz{lk:Nat->Option aG}:∀ {cs:List AV} {ts:List Ty} {us us':List TV} {ids:List Nat} {l:List Value} {yM:List Nat},wH lk cs ts=some (us,ids)->bf (C1 c G lk w) cs l->us'.map TV.τ=ts->dE w' (us'.map TV.bc) l yM->yM.Nodup->ids.Nodup ->
  (∀ id∈ids,cN (lk id)=true)->∃ A:List (Nat×TE),A.map (·.1)=ids/\(∀ p∈A,ZC G lk w' p.1 p.2)/\(∀ p∈A,∀ b∈p.2.2.1,b∈yM)/\(∀ p∈A,∀ q∈A,∀ b∈p.2.2.1,b∈q.2.2.1->p.1=q.1) /\
   ∀ s:ai,(s.kM cs us').aE=s.aE/\∀ i,(s.kM cs us').ah i=Tm A s.ah i
 | [],[],us,us',ids,l,yM,ht,hl,htt,hO,dt,hni,hT=>by
  simp only[wH,b0L,b0O] at ht;obtain⟨rfl,rfl⟩:=ht;exact⟨[],rfl,by simp,by simp,by simp,λ s=>by cases us'<;>exact⟨rfl,λ _=>rfl⟩⟩
 | cc::cs,t::ts,us,us',ids,l,yM,ht,hl,htt,hO,dt,hni,hT=>by
  simp only[wH] at ht;split at ht;case h_2=>cases ht
  case h_1 x i0 hx =>
  split at ht;case h_2=>cases ht
  case h_1 r j hr =>
  simp only[b0L,b0O] at ht;obtain⟨rfl,rfl⟩:=ht;match us',l,htt,hl,hO with
  | u'::us',v::l,htt,hl,hO =>
  simp only[b1J,b0T] at htt;obtain⟨ht1,ht2⟩:=htt;obtain⟨v1,r1,f1,f2,e1,e2,o1,o2⟩:=hO;simp only[b0T] at e1;obtain⟨rfl,rfl⟩:=e1;subst e2;rw[b1k] at dt hni;obtain⟨nd1,nd2,nd3⟩:=dt;obtain⟨ni1,ni2,ni3⟩:=hni;obtain⟨A,a1,a2,a3,a4,a5⟩:=Nz hr hl.2 ht2 o2 nd2 ni2 (λ id bm=>hT id (by simp[bm]));have skip:i0=[]->(∀ s:ai,(s.kM (cc::cs) (u'::us'))=s.kM cs us')->∃ A:List (Nat×TE),A.map (·.1)=i0++j/\(∀ p∈A,ZC G lk w' p.1 p.2)/\(∀ p∈A,∀ b∈p.2.2.1,b∈f1++f2)/\(∀ p∈A,∀ q∈A,∀ b∈p.2.2.1,b∈q.2.2.1->p.1=q.1) /\
   ∀ s:ai,(s.kM (cc::cs) (u'::us')).aE=s.aE/\∀ i,(s.kM (cc::cs) (u'::us')).ah i=Tm A s.ah i:=λ hi hs =>
   ⟨A,by rw[hi];exact a1,a2,λ p hp b hb=>by simp[a3 p hp b hb],a4,λ s=>by rw[hs];exact a5 s⟩
  cases cc with
  | aT z =>
   simp only[fF] at hx;split at hx
   .simp only[b0L,b0O] at hx;exact skip hx.2.symm λ s=>by obtain⟨bw,y'⟩:=u';cases bw<;>rfl
   .cases hx
  | nil =>
   cases t with
   | slice t' =>
    simp only[fF,b0L,b0O] at hx;exact skip hx.2.symm λ s=>by obtain⟨bw,y'⟩:=u';cases bw<;>rfl
   | _=>cases hx
  | row id =>
   simp only[fF] at hx;split at hx
   .rename_i so;split at hx
    .simp only[b0L,b0O] at hx;have:=hT id (by rw[<-hx.2];simp);rw[so] at this;cases this
    .cases hx
   .cases hx
  | aD id =>
   simp only[fF] at hx;split at hx
   .rename_i bw ys so;split at hx
    .rename_i y' Y1;simp only[b0L,b0O] at hx;obtain⟨_,rfl⟩:=hx;have e:=TV.bj Y1;have et:Ty.slice bw=t:=congrArg TV.τ e;subst et;obtain⟨Xa,yu⟩:=u';have ht1:Xa=Ty.slice bw:=ht1;subst ht1;obtain⟨_,l0,gH,_⟩:=hl.1;obtain⟨l',hT',_⟩:=l6.Zg (τ:=bw) (xs:=yu) o1;refine⟨(id,(.tuple (v::l').toArray,f1, .aD bw yu))::A,by simp[a1],?_,?_,?_,λ s=>?_⟩
     .intro p hp;rcases b1e.1 hp with rfl|hp
      .exact⟨bw,ys,yu,v,l0,l',so,rfl,gH,rfl,hT',nd1⟩
      .exact a2 p hp
     .intro p hp b hb;rcases b1e.1 hp with rfl|hp
      .exact b0Q.2 (.inl hb)
      .exact b0Q.2 (.inr (a3 p hp b hb))
     .intro p hp q hq b hb cO;rcases b1e.1 hp with rfl|hp<;>rcases b1e.1 hq with rfl|hq
      .rfl
      .exact absurd rfl (nd3 b hb b (a3 q hq b cO))
      .exact absurd rfl (nd3 b cO b (a3 p hp b hb))
      .exact a4 p hp q hq b hb cO
     .obtain⟨q1,q2⟩:=a5 (s.eQ id bw yu);refine⟨q1,λ i=>?_⟩;have pW:(s.kM (.aD id::cs) (⟨.slice bw,yu⟩::us')).ah i=Tm A (s.eQ id bw yu).ah i:=q2 i;rw[pW];have lH:∀ e,ah A id=some e->False:=λ e he=>by
       have:id∈A.map (·.1):=b0S.2 ⟨_,gX he,rfl⟩;rw[a1] at this;exact ni3 id (by simp) id this rfl
      unfold Tm;simp only[ah];by_cases hi:i=id
      .subst hi;cases hA:ah A i with
       | none=>simp[iU]
       | some e=>exact (lH e hA).elim
      .have:Nat.beq id i=false:=by
        cases hb:Nat.beq id i with
        | false=>rfl
        | true=>exact absurd (b0P hb).symm hi
       simp only[this];cases ah A i with
       | none=>simp[iU,hi]
       | some e=>rfl
    .cases hx
   .cases hx
  | _=>cases hx
 | [],_::_,_,_,_,_,_,ht,_,_,_,_,_,_=>by cases ht
 | _::_,[],_,_,_,_,_,ht,_,_,_,_,_,_=>by cases ht
theorem Vx(hE:bU c.P c.E)(h:Inv c G s a w){o:Oper}{f:FuncId}{m:FQ}(hm:c.E.mark f=some m){cs:List AV}{x:m.τ.den}{ids:List Nat}(ht:vm s.ah m.τ (.agg cs)=some (x,ids))(dt:ids.Nodup)(hT:∀ id∈ids,cN (s.ah id)=true)
  {k:Int} {v z:Value} {d:Nat} (hv:VR c G s.ah w (.agg cs) v) (hz:VR c G s.ah w (.aT ⟨.int .i64,k⟩) z) (zS:(m.g x k).1.ok) (hd:o.dst=some d) (c9:oC c.P f->(execOp a.eval o).run c.P w = .ok (.enter f [v,z].toArray) w) {Q:Exit->Act->World->Prop} :
  o.wp c.P a w (λ a' w'=>∃ G',Inv c G' ((s.cv.kM cs (TV.cells ⟨m.τ,(m.g x k).2.1⟩)).put (some d) (.aT ⟨.int .i64,(m.g x k).2.2⟩)) a' w') Q:=by
 obtain⟨rV,mM⟩:=hE.mark f _ hm;obtain⟨rfl,a0f⟩:=Y2 hz;obtain⟨fp,hO,Sh,tl⟩:=qV h ht hv dt;have bX:∀ b∈fp,b<w.heap.size:=λ b hb=>by
  obtain⟨id,hi,hq⟩:=tl b hb;rcases hq with ⟨τ,xs,q1,q2⟩|⟨e,τ,xs,q1,q2⟩
  .exact (h.aW.pl id τ xs b q1 q2).2.2.1
  .exact (h.place id _ b q1 q2).2.2
 have QF:∀ b,yG G s.ah ids b->∃ id∈ids,b∈G.φ id:=λ b hb=>by
  obtain⟨id,hi,hq⟩:=hb;rcases hq with ⟨τ,xs,q1,q2⟩|⟨e,τ,xs,q1,q2⟩
  .exact⟨id,hi,q2⟩
  .have:=hT id hi;rw[q1] at this;cases this
 unfold Oper.wp;rw[c9 rV];simp only[Oper.upon];refine (mM x k w v fp zS a0f (h.a4R λ b hb=>by
  obtain⟨id,hi,hq⟩:=tl b hb;rcases hq with ⟨τ,xs,q1,q2⟩|⟨e,τ,xs,q1,q2⟩
  .exact (h.aW.pl id τ xs b q1 q2).2.1
  .exact (h.place id _ b q1 q2).2.1) hO Sh bX).mono ?_
 rintro e w' ⟨rfl,U6,hk,yM,uh,Sg,wV⟩;show ∃ G',Inv c G' ((s.cv.kM cs (TV.cells ⟨m.τ,(m.g x k).2.1⟩)).put (some d) (.aT ⟨.int .i64,(m.g x k).2.2⟩)) (a.put o.dst (.int .i64 (m.g x k).2.2)) w';rw[hd];obtain⟨KJ,g⟩:=m;cases KJ with
 | st st =>
  simp only[vm] at ht;split at ht;case h_2=>cases ht
  case h_1 us i0 oR =>
  split at ht;case h_2=>cases ht
  case h_1 y0 hy0 =>
  simp only[b0L,b0O] at ht;obtain⟨rfl,rfl⟩:=ht;obtain⟨l,rfl,hl⟩:=hv;obtain⟨l2,hl2,uh⟩:=uh;simp only[Value.agg.injEq] at hl2;have hl2:l=l2:=congrArg Array.toList hl2;subst hl2;rw[show ((⟨.st st,g⟩:FQ).g y0 k).2.1=(g y0 k).2.1 from rfl,aY.cP] at uh;obtain⟨A,a1,a2,a3,a4,a5⟩:=Nz (us':=st.cells (g y0 k).2.1) oR hl (aY.vG st _) uh Sg dt hT;obtain⟨q1,q2⟩:=a5 s.cv;have a7r:∀ id∈i0,∃ p∈A,p.1=id:=λ id bm=>by
   rw[<-a1] at bm;obtain⟨p,hp,rfl⟩:=b0S.1 bm;exact⟨p,hp,rfl⟩
  refine h.TZ (w':=w') (t:=s.cv.kM cs (st.cells (g y0 k).2.1)) (A:=A) a2 ?_ a4 (by rw[a1];exact dt) hk ?_ q1 q2 (λ G' lk=>Pt U6)
  .intro p hp b hb;rcases wV b (a3 p hp b hb) with q|q
   .obtain⟨id,hi,uC⟩:=QF b (tl b q);obtain⟨q,hq,rfl⟩:=a7r id hi;exact .inl ⟨q,hq,uC⟩
   .exact .inr (UQ h q.1 q.2)
  .intro b hb;obtain⟨id,hi,uC⟩:=QF b (tl b hb);obtain⟨q,hq,rfl⟩:=a7r id hi;exact⟨q,hq,uC⟩
 | _=>cases ht
end
section
variable {c:Ctx} {G:Gh} {s:ai} {a:Act} {w w':World}
theorem I0(h:Inv c G s a w){o:Oper}{v:AV}{x:Value}{Q:Exit->Act->World->Prop}(hr:(execOp a.eval o).run c.P w = .ok (.value x) w)(hv:VR c G s.ah w v x) :
  o.wp c.P a w (λ a' w'=>∃ G',Inv c G' (s.put o.dst v) a' w') Q:=by
 unfold Oper.wp;rw[hr];exact⟨G,Inv.put h hv⟩
theorem ED{η:Value}{τ:Ty}{xs:List τ.den}{fp:List Nat}(hT:l6 w η τ xs fp){a0:Option Addr}{n cap:Nat}{l:List Value}(gH:η = .tuple (.slice a0 n cap::l).toArray){i:Nat}(hi:i<n) :
  n=xs.length/\∃ b f t,a0=some ⟨b,0,none⟩/\fp=b::f/\w.heap[b]?=some (.cells l.toArray t (0,0))/\cm w (xs.map τ.bc) l f:=by
 obtain⟨v0,l0,a1,Xo,h1,h2,h3,h4,h5,h6⟩:=hT;rw[gH] at h1;simp only[b2r] at h1;have h1:(Value.slice a0 n cap::l)=v0::l0:=congrArg Array.toList h1;simp only[b0T] at h1;obtain⟨hq,Ig⟩:=h1;subst Ig;rw[h2] at hq;simp only[b2w] at hq;obtain⟨rfl,rfl,rfl⟩:=hq;rcases h6 with ⟨rfl,_,_⟩|⟨b,f,t,q1,q2,q3,q4⟩
 .simp at hi
 .exact⟨rfl,b,f,t,q1,q2,q3,q4.2⟩
theorem P7{t:Ty}{x:Value}(h:C1 c G s.ah w (zeroCell t) x)(ht:t.agg=false):Ow w (t.bc t.zero) [x] []:=by
 cases t with
 | slice t' =>
  have h:x = .slice none 0 0:=h;subst h;exact⟨none,0,rfl,b1E _,by simp[maxLen],b2b _, .inl ⟨rfl,⟨rfl,rfl⟩,rfl⟩⟩
 | st s=>cases ht
 | mv t=>exact Ow.iv (S:=G.S) _ rfl h.2
 | ptr=>exact Ow.iv (S:=G.S) _ rfl h.2
 | int k=>exact Ow.iv (S:=G.S) _ rfl h.2
 | bool=>exact Ow.iv (S:=G.S) _ rfl h.2
 | str=>exact Ow.iv (S:=G.S) _ rfl h.2
theorem a3p(s:aY):∀ t∈s.zD,t.agg=false:=λ t ht=>by
 rw[<-aY.vG s s.zero] at ht;obtain⟨u,hu,rfl⟩:=b0S.1 ht;exact Lx s _ u hu
theorem a6f{c:Ctx}{G:Gh}{s:ai}{τ:Ty}{z:Value}(h:Cr τ z=true):Ow w (τ.bc τ.zero) z.cells.toList []:=by
 have h1:=pK (c:=c) (G:=G) (lk:=s.ah) (w:=w) h;cases τ with
 | st st =>
  simp only[zeroCells] at h1;show Ow w (st.bc st.zero) _ [];rw[aY.cP];have hz:(st.cells st.zero).map TV.bc=st.zD.map λ t=>t.bc t.zero:=by cases st<;>rfl
  rw[hz];have h2:=bf.of_map _ h1;have:∀ (ts:List Ty) (vs:List Value),bf (λ t x=>Ow w (t.bc t.zero) [x] []) ts vs->dE w (ts.map λ t=>t.bc t.zero) vs []:=by
   intro ts;induction ts with
   | nil=>intro vs h;cases vs<;>first|exact⟨rfl,rfl⟩|cases h
   | cons t ts ih =>
    intro vs h;cases vs with
    | nil=>cases h
    | cons v vs=>exact⟨v,vs,[],[],rfl,rfl,h.1,ih vs h.2⟩
  exact this _ _ (h2.imp λ t x ht hx=>P7 hx (a3p st t ht))
 | _ =>
  simp only[zeroCells] at h1;match hc:z.cells.toList,h1 with
  | [x],h1=>exact P7 h1.1 rfl
theorem cm.ZG:∀ (ds:List D) {es:List D} {l m:List Value} {n:Nat},cm w ds l []->(∀ d∈ds,d.size=n)->l.length=ds.length * n->cm w es m []->cm w (ds++es) (l++m) []
 | [],es,l,m,n,_,_,hl,h=>by
  have:l=[]:=List.eq_nil_of_length_eq_zero (by simpa using hl);subst this;simpa using h
 | d::ds,es,l,m,n,h,hn,hl,h'=>by
  obtain⟨cc,r,f1,f2,rfl,hf,h3,h4⟩:=h;have hf:=(List.append_eq_nil_iff.1 hf.symm);obtain⟨rfl,rfl⟩:=hf;have hc:cc.length=n:=by rw[Ow.length _ h3];exact hn d (by simp)
  refine⟨cc,r++m,[],[],by simp,rfl,h3,cm.ZG ds h4 (λ d hd=>hn d (by simp[hd])) ?_ h'⟩;simp only[b1l,b0Z,b2a,Nat.one_mul] at hl;omega
theorem cm.more:∀ (ds:List D) {l:List Value} {fp:List Nat} (m:List Value),cm w ds l fp->cm w ds (l++m) fp
 | [],_,_,_,h=>h
 | d::ds,_,_,m,h=>by
  obtain⟨cc,r,f1,f2,rfl,hf,h3,h4⟩:=h;exact⟨cc,r++m,f1,f2,by simp,hf,h3,cm.more ds m h4⟩
theorem Lf{d:D}{z:Array Value}(h:Ow w d z.toList []):∀ k:Nat,cm w (List.replicate k d) (madeCells z (k * z.size)).toList []
 | 0=>rfl
 | k+1=>by
  have hz:d.size=z.size:=by have:=Ow.length _ h;simpa using this.symm
  rw[GF,b3q];refine cm.ZG (n:=z.size) _ (Lf h k) (λ e he=>by rw[List.eq_of_mem_replicate he];exact hz) (by simp[madeCells]) ⟨z.toList,[],[],[],by simp,rfl,h,rfl⟩
theorem Qv(h:Inv c G s a w)(id:Nat):Inv c G (s.gone id) a w:=by
 obtain⟨h1,_,_⟩:=h.clear id;have cY:(s.gone id).ah=λ i=>if i=id then none else (s.cF id).ah i:=by
  funext i;exact gq id _ i
 unfold Inv;show bH c G (s.cF id).sl (s.cF id).aE.length (s.gone id).ah a w;rw[cY,show (s.cF id).aE.length=s.aE.length from by simp[ai.cF]];exact h1
theorem Fj(s:ai)(id i:Nat):(s.gone id).ah i=if i=id then none else (s.ah i).map (aG.kill id):=by
 show ah (cf id (s.cF id).aR) i=_;rw[gq,<-congrFun (fN s id) i];rfl
theorem zI:∀ (ids:List Nat) {s:ai},Inv c G s a w->Inv c G (ids.foldl ai.gone s) a w
 | [],_,h=>h
 | id::r,_,h=>zI r (Qv h id)
theorem a1F(id:Nat){τ:Ty}{xs:List τ.den}{o:Option aG}(h:o=some (.aD τ xs)):o.map (aG.kill id)=some (.aD τ xs):=by subst h;rfl
theorem Sd:∀ (ids:List Nat) {s:ai} {id:Nat} {τ:Ty} {xs:List τ.den},s.ah id=some (.aD τ xs)->id∉ids->(ids.foldl ai.gone s).ah id=some (.aD τ xs)
 | [],_,_,_,_,h,_=>h
 | i::r,s,id,τ,xs,h,hn=>by
  refine Sd r ?_ (λ hh=>hn (by simp[hh]));rw[Fj,b0Y (λ e=>hn (by simp[e]))];exact a1F i h
theorem L1:∀ (ids:List Nat) {s:ai} {i:Nat} {o:aG},(ids.foldl ai.gone s).ah i=some o->i∉ids/\∃ o',s.ah i=some o'/\∀ τ xs,o = .aD τ xs->o' = .aD τ xs
 | [],s,i,o,h=>⟨by simp,o,h,λ _ _ e=>e⟩
 | id::r,s,i,o,h=>by
  obtain⟨h1,o',h2,h3⟩:=L1 r h;rw[Fj] at h2;split at h2
  .cases h2
  .rename_i gU;simp only[b1M] at h2;obtain⟨p,hp,hk⟩:=h2;refine⟨by simp[gU,h1],p,hp,λ τ xs e=>?_⟩;have:=h3 τ xs e;subst this;have hm:(some p).map (aG.kill id)=some (.aD τ xs):=by rw[<-hk];rfl
   have:=oh hm;simpa using this
theorem I5{o:Oper}{T:TypeId}{ad x:Operand}(bL:o.op = .store T ad x){w':World}{s':ai}{G':Gh}(hr:(Instr.storeAt T (a.eval ad) (a.eval x)).run c.P w = .ok () w')(hI:Inv c G' (s'.put none .any) a w'){Q:Exit->Act->World->Prop} :
  o.wp c.P a w (λ a' w'=>∃ G',Inv c G' (s'.put o.dst .any) a' w') Q:=by
 unfold Oper.wp;have:(execOp a.eval o).run c.P w = .ok .skip w':=by simp only[execOp,bL,Sem.run_bind,hr,Result.andThen_ok,Sem.run_pure]
 rw[this];exact⟨G',Inv.put (s:=s') hI trivial⟩
theorem Wh(hE:bU c.P c.E)(h:Inv c G s a w){T:TypeId}{τ bw:Ty}{bt e:Nat}(hT:ah c.E.ty T=some (τ,bt,e)){id i off:Nat}{xs:List bw.den}(bm:s.ah id=some (.aD bw xs)){p x:Value}(hp:VR c G s.ah w (.gQ id i off bw.size) p)(sq:off+τ.size<=bw.size)
  (xQ:x.cells.toList.length=τ.size) (Ie:∀ u∈x.cells.toList,u.oneCell'=true) {y:bw.den}
  (hO:∀ (b:Nat) (f:List Nat) (l:List Value) (w':World),G.φ id=b::f->l.length>=i * bw.size+bw.size->cm w (xs.map bw.bc) l f->(∀ k,k≠b->w'.heap[k]?=w.heap[k]?) ->
   ∃ f',cm w' ((xs.set i y).map bw.bc) (l.take (i * bw.size+off)++x.cells.toList++l.drop (i * bw.size+off+τ.size)) f'/\f'.Nodup/\b∉f'/\∀ k∈f',k∈f\/yF c G s.ah w k) :
  ∃ w' G',(Instr.storeAt T p x).run c.P w = .ok () w'/\Inv c G' (s.cv.eQ id bw (xs.set i y)) a w':=by
 obtain⟨_,b,n,cap,l,gH,hi,rfl⟩:=hp;obtain⟨rfl,b',f,t,e1,tl,hh,gO⟩:=ED (h.aW.tr id bw xs bm) gH hi;simp only[b0L,b2J,b1b] at e1;subst e1;have dh:∀ d∈xs.map bw.bc,d.size=bw.size:=by
  intro d hd;obtain⟨z,_,rfl⟩:=b0S.1 hd;exact Ty.dn bw z
 obtain⟨_,_,_,_,hlen,_,_⟩:=cm.split (xs.map bw.bc) i (bw.bc (xs.getD i bw.zero)) gO dh (by simp[List.getD,hi]);have c9:=yW (c:=c) (l:=l) hE hT (o:=i * bw.size+off) (x:=x) hh xQ Ie (by omega);have DW:∀ k,k≠b->(w.setRow b (l.take (i * bw.size+off)++x.cells.toList++l.drop (i * bw.size+off+τ.size)).toArray).heap[k]?=w.heap[k]?:=λ k hk=>ru w hh k hk;obtain⟨f',k1,k2,k3,k4⟩:=hO b f l _ tl hlen gO DW;have vx:=b4I w b l.toArray (l.take (i * bw.size+off)++x.cells.toList++l.drop (i * bw.size+off+τ.size)).toArray t (0,0) hh;have hT':l6 (w.setRow b (l.take (i * bw.size+off)++x.cells.toList++l.drop (i * bw.size+off+τ.size)).toArray) (.tuple (.slice (some ⟨b,0,none⟩) xs.length cap::(l.take (i * bw.size+off)++x.cells.toList++l.drop (i * bw.size+off+τ.size))).toArray) bw (xs.set i y) (b::f'):=by
  obtain⟨v0,l0,a1,Xo,h1,h2,h3,h4,h5,h6⟩:=h.aW.tr id bw xs bm;rw[gH] at h1;simp only[b2r] at h1;have h1:(Value.slice (some ⟨b,0,none⟩) xs.length cap::l)=v0::l0:=congrArg Array.toList h1;simp only[b0T] at h1;obtain⟨hq,Ig⟩:=h1;rw[h2] at hq;simp only[b2w] at hq;obtain⟨rfl,_,rfl⟩:=hq;have K1:l.length=cap * bw.size:=by
   rw[Ig];rcases h6 with ⟨_,h',_⟩|⟨_,_,_,_,_,_,k0,_⟩
   .cases h'.1
   .exact k0
  exact⟨_,_,_,cap,rfl,by simp,by simpa using h3,h4,by simpa using h5, .inr ⟨b,f',t,rfl,rfl,vx,by rw[<-K1];simp only[List.length_append,List.length_take,List.length_drop,xQ];omega,k1⟩⟩
 have hpl:=h.aW.pl id bw xs;have:=h.TZ (w':=w.setRow b (l.take (i * bw.size+off)++x.cells.toList++l.drop (i * bw.size+off+τ.size)).toArray) (t:=s.cv.eQ id bw (xs.set i y)) (F:=λ k=>k=b)
  (A:=[(id,(.tuple (.slice (some ⟨b,0,none⟩) xs.length cap::(l.take (i * bw.size+off)++x.cells.toList++l.drop (i * bw.size+off+τ.size))).toArray,b::f', .aD bw (xs.set i y)))]) ?_ ?_ ?_ (by simp)
  ⟨rfl,rfl,rfl,by simp[World.setRow],λ k hk gU=>DW k gU⟩ (λ k hk=>⟨_,b1x.2 rfl,by rw[tl,hk];simp⟩) rfl (λ j=>?_) (d:=none) (v := .any) (x:=undef) (λ _ _=>trivial)
 .obtain⟨G',hG⟩:=this;exact⟨_,G',c9,hG⟩
 .intro p hp;simp only[b1x] at hp;subst hp;exact⟨bw,xs,_,_,l,_,bm,rfl,gH,rfl,hT',b1G.2 ⟨k3,k2⟩⟩
 .intro p hp k hk;simp only[b1x] at hp;subst hp;rcases b1e.1 hk with rfl|hk
  .exact .inl ⟨_,b1x.2 rfl,by rw[tl];simp⟩
  .rcases k4 k hk with hk|hk
   .exact .inl ⟨_,b1x.2 rfl,by rw[tl];simp[hk]⟩
   .exact .inr (hk.grow (by simp[World.setRow]))
 .intro p hp q hq k _ _;simp only[b1x] at hp hq;rw[hp,hq]
 .rw[PF,iU]
theorem Dh.cells{w:World}{τ:Ty}{y:τ.den}{x:Value}{fp:List Nat}(h:Dh w ⟨τ,y⟩ x fp):Ow w (τ.bc y) x.cells.toList fp:=by
 cases τ with
 | st s =>
  obtain⟨cs,rfl,h⟩:=h;exact h
 | slice t =>
  obtain⟨a',cap,h1,_⟩:=id h;simp only[b0T,b1b] at h1;subst h1;exact h
 | mv t =>
  have h1:=Ow.length _ (show Ow w (mvD t.size t.bc y) [x] fp from h);cases hy:(show Option (List t.den) from y) with
  | none =>
   have e:y=(none:Option (List t.den)):=hy;subst e;obtain⟨⟨a',n,m,h1⟩,_⟩:=id h;simp only[b0T,b1b] at h1;subst h1;exact h
  | some l =>
   have e:y=(some l:Option (List t.den)):=hy;subst e;obtain⟨a',cap,h1,_⟩:=id h;simp only[b0T,b1b] at h1;subst h1;exact h
 | ptr=>obtain⟨⟨p,h1⟩,_⟩:=id h;simp only[b0T,b1b] at h1;subst h1;exact h
 | int k=>obtain⟨⟨h1,_⟩,_⟩:=id h;simp only[b0T,b1b] at h1;subst h1;exact h
 | bool=>have h1:=h.1;simp only[b0T,b1b] at h1;subst h1;exact h
 | str=>obtain⟨⟨z,h1,_⟩,_⟩:=id h;simp only[b0T,b1b] at h1;subst h1;exact h
theorem Wd(l:List Value)(k:Nat)(v:Value)(h:k<l.length):l.take k++[v]++l.drop (k+1)=l.set k v:=by
 rw[List.set_eq_take_append_cons_drop,b1q h,b1P];rfl
theorem Ol(h:Inv c G s a w){ids:List Nat}{b:Nat}(hb:yG G s.ah ids b):yF c G (ids.foldl ai.gone s).ah w b:=by
 obtain⟨id,hi,hq⟩:=hb;have hp:(c.w0.heap.size<=b\/c.X b)/\¬ G.S b/\b<w.heap.size:=by
  rcases hq with ⟨τ,xs,q1,q2⟩|⟨e,τ,xs,q1,q2⟩
  .obtain⟨p1,p2,p3,_⟩:=h.aW.pl id τ xs b q1 q2;exact⟨p1,p2,p3⟩
  .obtain⟨p1,p2,p3⟩:=h.place id _ b q1 q2;exact⟨p1,p2,p3⟩
 refine⟨hp.1,hp.2.1,hp.2.2,λ i o cU uC=>?_,λ j τ xs hj rU=>?_⟩
 .obtain⟨h1,o',h2,_⟩:=L1 ids cU;rcases hq with ⟨τ,xs,q1,q2⟩|⟨e,τ,xs,q1,q2⟩
  .exact (h.aW.pl id τ xs b q1 q2).2.2.2 i o' h2 uC
  .have:=h.apart i id o' _ b h2 q1 uC q2;subst this;exact h1 hi
 .obtain⟨h1,o',h2,h3⟩:=L1 ids hj;have:=h3 τ xs rfl;subst this;rcases hq with ⟨bw,dw,q1,q2⟩|⟨e,bw,dw,q1,q2⟩
  .have:=h.aW.ap j id _ _ _ _ b h2 q1 rU q2;subst this;exact h1 hi
  .exact (h.aW.pl j τ xs b h2 rU).2.2.2 id _ q1 q2
theorem TF{l:List Operand}{u v:AV}(h:Inv c G s a w)(hl:l.map s.eval=[u,v]):∃ x y,l.map a.eval=[x,y]/\VR c G s.ah w u x/\VR c G s.ah w v y:=by
 have:=bf.tg (bI h) l;rw[hl] at this;match hx:l.map a.eval,this with
 | [x,y],hh=>exact⟨x,y,rfl,hh.1,hh.2.1⟩
theorem a1S(hE:bU c.P c.E)(h:Inv c G s a w){o:Oper}{vc:Vc}{s':ai}(hq:Zi c.E s o=some (vc,s'))(fZ:vc.ok){Q:Exit->Act->World->Prop} :
  o.wp c.P a w (λ a' w'=>∃ G',Inv c G' s' a' w') Q:=by
 unfold Zi at hq;split at hq;case h_1 T x ix bL =>
  split at hq;case h_2=>cases hq
  case h_1 τ r hT =>
  split at hq;case h_2=>cases hq
  case h_1 k i id hi hx =>
  split at hq;case h_2=>cases hq
  case h_1 bw xs bm =>
  split at hq;case h_2=>cases hq
  case h_1 nH =>
  have dh:bw.size=τ.size:=by
   simp only[b2y] at nH;rcases nH with nH|nH
   .rw[b1z nH]
   .unfold Ty.a7z at nH;split at nH
    .rename_i p q;have e:=congrArg List.length (b1z nH);rw[b1o] at e;have e1:=congrArg List.length (aY.vG p p.zero);have e2:=congrArg List.length (aY.vG q q.zero);rw[b1o,aY.mK] at e1 e2;simp only[Ty.size];omega
    .cases nH
  simp only[b0L,b0O] at hq;obtain⟨rfl,rfl⟩:=hq;have xO:=bI h ix;rw[hi] at xO;obtain⟨xO,_⟩:=xO;simp only[b0T,b1b] at xO;have hv:=bI h x;rw[hx] at hv;obtain⟨hit,l,gH,ad,m,cap,Kk⟩:=hv;obtain⟨h0,h1⟩:=fZ;have hTr:=h.aW.tr id bw xs bm;rw[Kk] at gH;have hm:m=xs.length:=by
   obtain⟨v0,l0,a1,Xo,q1,q2,_⟩:=hTr;rw[gH] at q1;simp only[b2r] at q1;have q1:(Value.slice ad m cap::l)=v0::l0:=congrArg Array.toList q1;simp only[b0T] at q1;rw[q2] at q1;simp only[b2w] at q1;exact q1.1.2.1
  subst hm;obtain⟨_,b,f,t,e1,_⟩:=ED hTr gH (i:=i.toNat) (by omega);subst e1;refine I0 h (x := .pointer (some ⟨b,0+i.toNat * τ.size,none⟩)) ?_ ⟨hit,b,_,cap,l,gH,by omega,by simp⟩;simp only[execOp,bL,Kk,xO,b1u,vk hE hT h0 h1,b1j,b1w]
 case h_2 T x i bL =>
  split at hq;case h_2=>cases hq
  case h_1 st r hT =>
  split at hq;case h_2=>cases hq
  case h_1 id k off sz hx =>
  split at hq;case h_2=>cases hq
  case h_1 bX =>
  simp only[Option.some.injEq,Prod.mk.injEq] at hq;obtain⟨rfl,rfl⟩:=hq;have bX:i<st.jw.length:=by simpa [Nat.blt_eq] using bX
  have hv:=bI h x;rw[hx] at hv;obtain⟨h1,b,m,cap,l,h2,h3,h4⟩:=hv;refine I0 h (x := .pointer (some ⟨b,k * sz+(off+st.iK i),none⟩)) ?_ ⟨h1,b,m,cap,l,h2,h3,rfl⟩;simp only[execOp,bL,h4,b1u,pb hE hT bX,b1j,b1w,b3H]
 case h_3 T ad bL =>
  split at hq;case h_2=>cases hq
  case h_1 τ r hT =>
  split at hq;case h_2=>cases hq
  case h_1 id i off sz hx =>
  split at hq;case h_2=>cases hq
  case h_1 bw xs bm =>
  split at hq;case h_2=>cases hq
  case h_1 u hu hb =>
  simp only[Bool.and_eq_true,Bool.not_eq_true'] at hb;obtain⟨E7,Mn,U0⟩:=hb;have E7:=Nat.eq_of_beq_eq_true E7;subst E7;have U0:off<bw.size:=by simpa [Nat.blt_eq] using U0
  have hv:=bI h ad;rw[hx] at hv;obtain⟨h1,b,m,cap,l,h2,h3,h4⟩:=hv;obtain⟨rfl,v,f1,p1,p2,_⟩:=Wq (h.aW.tr id bw xs bm) (h.aW.nd id bw xs bm) h2 h3 hu Mn U0;obtain⟨_,b',f,t,e1,_,hh,_⟩:=ED (h.aW.tr id bw xs bm) h2 h3;simp only[b0L,b2J,b1b] at e1;subst e1;have xM:cG w b (i * bw.size+off) [v]:=λ j z hj=>by
   cases j with
   | zero =>
    simp at hj;subst hj;simp[World.cell?,hh,p1]
   | succ j=>simp at hj
  have hs1:τ.size=1:=Ty.ot Mn;have c9:(execOp a.eval o).run c.P w = .ok (.value (Km τ [v])) w:=by
   simp only[execOp,bL,h4,b1u,qT hE hT xM (by rw[hs1];rfl),b1j,b1w]
  have hmk:Km τ [v]=v:=by cases τ<;>first|rfl|cases Mn
  rw[hmk] at c9;have hut:u.τ=τ:=by
   unfold TV.part at hu;split at hu
   .rename_i mh;simp only[b0R] at mh;simp only[b0L] at hu;rw[<-hu];exact b1z mh.2
   .split at hu
    .split at hu
     .rename_i hd;simp only[b0L] at hu;rw[<-hu];exact b1z hd
     .cases hu
    .cases hu
  split at hq;case h_1 Fc =>
   simp only[b0L,b0O] at hq;obtain⟨rfl,rfl⟩:=hq;refine I0 h c9 ?_;obtain⟨Xa,yu⟩:=u;have hut:Xa=τ:=hut;subst hut;have hl:(Ty.bc Xa yu).light=true:=xC Fc yu;have hr:Rd w G.S (Ty.bc Xa yu) [v]:=by
    cases Xa with
    | int k=>exact p2.1
    | bool=>exact p2.1
    | str=>exact p2.1
    | slice t=>cases Fc
    | mv t=>cases Fc
    | ptr=>exact p2.1
    | st s=>cases Fc
   cases Xa with
   | mv t=>cases Fc
   | st s=>cases Fc
   | slice t=>cases Fc
   | _=>exact hr
  case h_2 Fc =>
   simp only[b0L,b0O] at hq;obtain⟨rfl,rfl⟩:=hq;refine I0 h c9 ⟨h1,_,_,cap,l,h2,h3,p1,?_⟩;obtain⟨Xa,yu⟩:=u;have hut:Xa=τ:=hut;subst hut;cases Xa with
   | slice t =>
    obtain⟨a',Xn,q,_⟩:=p2;simp only[b0T,b1b] at q;exact⟨_,_,_,q⟩
   | st s=>cases Mn
   | mv t =>
    cases hy:(show Option (List t.den) from yu) with
    | none =>
     have e:yu=(none:Option (List t.den)):=hy;subst e;obtain⟨⟨a',n,m,q⟩,_⟩:=p2;simp only[b0T,b1b] at q;exact⟨_,_,_,q⟩
    | some l =>
     have e:yu=(some l:Option (List t.den)):=hy;subst e;obtain⟨a',Xn,q,_⟩:=p2;simp only[b0T,b1b] at q;exact⟨_,_,_,q⟩
   | int k=>cases Fc
   | bool=>cases Fc
   | str=>cases Fc
   | ptr=>cases Fc
 case h_4 T ad x bL =>
  split at hq;case h_2=>cases hq
  case h_1 τ r hT =>
  split at hq;case h_2=>cases hq
  case h_1 id i off sz hx =>
  split at hq;case h_2=>cases hq
  case h_1 bw xs bm =>
  split at hq;case h_2=>cases hq
  case h_1 hb =>
  simp only[Bool.and_eq_true] at hb;obtain⟨E7,U0⟩:=hb;have E7:=Nat.eq_of_beq_eq_true E7;subst E7;have U0:off<bw.size:=by simpa [Nat.blt_eq] using U0
  have hp:=bI h ad;rw[hx] at hp;have hxv:=bI h x;have gT:i<xs.length:=by
   obtain⟨_,b,m,cap,l,h2,h3,_⟩:=hp;obtain⟨h4,_⟩:=ED (h.aW.tr id bw xs bm) h2 h3;omega
  split at hq;case h_1 Fc =>
   split at hq;case h_2=>cases hq
   case h_1 u j hu =>
   split at hq;case h_2=>cases hq
   case h_1 u0 y hu0 hy =>
   simp only[b0L,b0O] at hq;obtain⟨rfl,rfl⟩:=hq;have yp:τ.agg=false:=by cases τ<;>first|rfl|cases Fc
   have hs1:τ.size=1:=Ty.ot yp;have xM:(a.eval x).cells.toList=[a.eval x]/\(a.eval x).oneCell'=true/\Ow w (τ.bc u) [a.eval x] []:=by
    have hc:C1 c G s.ah w (s.eval x) (a.eval x)/\(s.eval x).cell=true:=by
     have hcc:(s.eval x).cell=true:=by
      revert hu;cases dx:s.eval x with
      | aT v =>
       intro hu;simp only[fF] at hu;split at hu
       .rename_i Y1;have e:=TV.bj Y1;subst e;cases τ<;>first|rfl|cases yp
       .cases hu
      | nil=>intro hu;cases τ<;>first|(cases Fc;done)|(cases hu;done)
      | aD id=>intro hu;simp[fF] at hu
      | row id=>intro hu;simp[fF] at hu
      | _=>intro hu;cases hu
     exact⟨hxv.Yf hcc,hcc⟩
    obtain⟨q1,q2⟩:=hc.1.leaf hc.2;refine⟨by rw[q2],q1,?_⟩;revert hu;have Qz:=hc.1;revert Qz;cases s.eval x with
    | aT v =>
     intro Qz hu;simp only[fF] at hu;split at hu
     .rename_i a9M Y1;have e:=TV.bj Y1;subst e;simp only[b0L,b0O] at hu;rw[<-hu.1];exact Ow.iv (S:=G.S) _ (xC a9M _) Qz.2
     .cases hu
    | nil=>intro _ hu;cases τ<;>first|(cases Fc;done)|(cases hu;done)
    | aD id=>intro _ hu;simp[fF] at hu
    | row id=>intro _ hu;simp[fF] at hu
    | _=>intro _ hu;cases hu
   obtain⟨c1,c2,c3⟩:=xM;obtain⟨w',G',k1,k2⟩:=Wh hE h hT bm hp (y:=y) (x:=a.eval x) (by omega) (by rw[c1,hs1];rfl) (by rw[c1];simpa using c2) (λ b f l w' QF hlen gO DW=>by
    have dh:∀ d∈xs.map bw.bc,d.size=bw.size:=by
     intro d hd;obtain⟨z,_,rfl⟩:=b0S.1 hd;exact Ty.dn bw z
    have dt:=h.aW.nd id bw xs bm;rw[QF,b1G] at dt;obtain⟨WN,U8⟩:=dt;have jF:∀ k∈f,w'.heap[k]?=w.heap[k]?:=λ k hk=>DW k λ e=>WN (e ▸ hk);obtain⟨g0,g1,g2,rfl,_,m1,m2⟩:=cm.split (xs.map bw.bc) i (bw.bc (xs.getD i bw.zero)) gO dh (by simp[List.getD,gT]);obtain⟨v,p0,p1,p2,rfl,q1,q2,q3⟩:=Su hu0 yp m1;have hy2:=q3 w' ⟨τ,u⟩ y (a.eval x) [] hy (λ k hk=>jF k (by simp at hk ⊢;rcases hk with hk|hk<;>simp[hk])) (c3.bd _ (by simp));have hr:=m2 w' (bw.bc y) _ (p0++[]++p2) (λ k hk=>jF k (by simp at hk ⊢;rcases hk with hk|hk<;>simp[hk])) (by simp only[b2k,b1C,b1Y];omega) hy2;rw[a0J l _ _ _ _ U0 hlen,<-b3M] at hr;refine⟨_,by rw[c1,hs1,Wd _ _ _ (by omega)];exact hr,?_,λ hk=>WN ?_,λ k hk => .inl ?_⟩
    .refine Cj (f1:=p0++p1++p2) U8 (Cj (f1:=p1) ?_ b2c (by simp)) (λ k hk => .inl (by simp at hk ⊢;rcases hk with hk|hk<;>simp[hk]));rw[b1k,b1k] at U8;exact U8.1.2.1
    .simp at hk ⊢;rcases hk with hk|hk|hk|hk<;>simp[hk]
    .simp at hk ⊢;rcases hk with hk|hk|hk|hk<;>simp[hk])
   exact I5 bL k1 k2
  case h_2 Fc =>
   split at hq;case h_2=>cases hq
   case h_1 y ids sq ht =>
   split at hq;case h_2=>cases hq
   case h_1 y' dt Y1 =>
   simp only[b0L,b0O] at hq;obtain⟨rfl,rfl⟩:=hq;have sq:=b0P sq;subst sq;have e:=TV.bj Y1;have et:τ=bw:=congrArg TV.τ e;subst et;cases e;have dt:=dz dt;rw[b1G] at dt;obtain⟨a7q,a6w⟩:=dt;obtain⟨fq,o1,o2,o3⟩:=qV h ht hxv a6w;have oR:=Dh.cells o1;have hlen:=Ow.length _ oR;rw[Ty.dn] at hlen;have h1:=zI ids h;have XL:=Sd ids bm a7q;obtain⟨_,b0,m0,a8Z,l0,a9Q,hi0,hp0⟩:=hp;obtain⟨w',G',k1,k2⟩:=Wh hE h1 hT XL (i:=i) (off:=0) (p:=a.eval ad) ⟨by rw[XL];rfl,b0,m0,a8Z,l0,a9Q,hi0,hp0⟩ (y:=y) (x:=a.eval x) (by omega) hlen
    (Rd.wi (S:=λ b=>b∈fq) (x:=y) (Ow.rd _ oR λ b hb=>hb)) (λ b f l w' QF b0s gO DW=>by
    have dh:∀ d∈xs.map τ.bc,d.size=τ.size:=by
     intro d hd;obtain⟨z,_,rfl⟩:=b0S.1 hd;exact Ty.dn τ z
    have Sg:=h.aW.nd id τ xs bm;rw[QF,b1G] at Sg;obtain⟨WN,U8⟩:=Sg;have jF:∀ k∈f,w'.heap[k]?=w.heap[k]?:=λ k hk=>DW k λ e=>WN (e ▸ hk);have BH:∀ k∈fq,k∉b::f:=λ k hk qp=>by
     refine h.mN (o3 k hk) (j:=[id]) ⟨id,by simp, .inl ⟨τ,xs,bm,by rw[QF];exact qp⟩⟩ λ x1 Y0 y1 WV e=>?_;simp only[b1x] at WV;exact a7q (by rw[<-WV,<-e];exact Y0)
    obtain⟨g0,g1,g2,rfl,_,m1,m2⟩:=cm.split (xs.map τ.bc) i (τ.bc (xs.getD i τ.zero)) gO dh (by simp[List.getD,gT]);have hr:=m2 w' (τ.bc y) (a.eval x).cells.toList fq (λ k hk=>jF k (by simp at hk ⊢;rcases hk with hk|hk<;>simp[hk])) hlen (oR.bd _ λ k hk=>DW k λ e=>BH k hk (by simp[e]));rw[<-b3M] at hr;refine⟨g0++fq++g2,by rw[b2I];exact hr,?_,λ hk=>?_,λ k hk=>?_⟩
    .rw[b1k,b1k] at U8;obtain⟨⟨n1,n2,n3⟩,n4,n5⟩:=U8;refine fK (fK n1 o2 λ k hk qp=>BH k qp (by simp[hk])) n4 λ k hk qp=>?_;rcases b0Q.1 hk with hk|hk
     .exact n5 k (b0Q.2 (.inl hk)) k qp rfl
     .exact BH k hk (by simp[qp])
    .rcases b0Q.1 hk with hk|hk
     .rcases b0Q.1 hk with hk|hk
      .exact WN (by simp[hk])
      .exact BH b hk (by simp)
     .exact WN (by simp[hk])
    .rcases b0Q.1 hk with hk|hk
     .rcases b0Q.1 hk with hk|hk
      .exact .inl (by simp[hk])
      .exact .inr (Ol h (o3 k hk))
     .exact .inl (by simp[hk]))
   exact I5 bL k1 k2
 case h_5 T l cc bL =>
  split at hq;case h_2=>cases hq
  case h_1 d τ b e hd hT =>
  split at hq;case h_2=>cases hq
  case h_1 wU =>
  have a9x:d<50:=by
   simp only[Bool.and_eq_true] at wU;simpa [Nat.blt_eq] using wU.2
  split at hq;case h_2=>cases hq
  case h_1 n m hn hm =>
  simp only[b0L,b0O] at hq;obtain⟨rfl,rfl⟩:=hq;have hl:=bI h l;have hc:=bI h cc;rw[hn] at hl;rw[hm] at hc;obtain⟨hl,_⟩:=hl;obtain⟨hc,_⟩:=hc;simp only[b0T,b1b] at hl hc;obtain⟨v1,v2,v3,v4⟩:=Sn fZ;obtain⟨h1,_,i,z,h3,h4,h5,h6,h7⟩:=hE.slice hT;have hzo:=a6f (c:=c) (G:=G) (s:=s) (w:=w.alloc (.cells (madeCells z.cells (m.toNat * i.size)) e)) h7;have hzl:=Ow.length _ hzo;rw[Ty.dn,b1S] at hzl;have hr:=run_make (P:=c.P) w T e i z h1 h3 h6 .i64 .i64 n m v1 v2 (by rw[h5];omega) (by omega);have hI:=bH.alloc (Qv h d) (.cells (madeCells z.cells (m.toNat * i.size)) e);have vK:(s.gone d).ah d=none:=by rw[Fj,b1q rfl]
  obtain⟨r1,r2⟩:=hI.VP vK;have gO:cm (w.alloc (.cells (madeCells z.cells (m.toNat * i.size)) e)) ((List.replicate n.toNat τ.zero).map τ.bc) (madeCells z.cells (m.toNat * i.size)).toList []:=by
   rw[b4G];have hle:n.toNat * z.cells.size<=m.toNat * i.size:=by rw[h4,hzl];exact b2P _ (by omega)
   have:=cm.more _ ((madeCells z.cells (m.toNat * i.size)).toList.drop (n.toNat * z.cells.size)) (Lf hzo n.toNat);rwa [<-GG _ _ _ hle,b2f] at this
  have hT':l6 (w.alloc (.cells (madeCells z.cells (m.toNat * i.size)) e)) (.tuple (.slice (some ⟨w.heap.size,0,none⟩) n.toNat m.toNat::(madeCells z.cells (m.toNat * i.size)).toList).toArray) τ (List.replicate n.toNat τ.zero) [w.heap.size] :=
   ⟨_,_,some ⟨w.heap.size,0,none⟩,m.toNat,rfl,by simp,by simp;omega,by simp only[maxLen];omega,by simp;omega, .inr ⟨w.heap.size,[],e,rfl,rfl,by simpa using heap_alloc_new w (.cells (madeCells z.cells (m.toNat * i.size)) e),by simp[madeCells,h4],gO⟩⟩
  have hN:=hI.VL d τ (List.replicate n.toNat τ.zero) _ [w.heap.size] vK r1 r2 (by
   cases hr:c.R d with
   | none=>rfl
   | some v=>exact absurd (h.mG d v hr).1 (Nat.not_le.2 a9x)) hT' (by simp) (λ k hk=>by
   simp only[b1x] at hk;subst hk;have hg:=Qv h d;refine⟨.inl h.bd.size,λ hs=>b3c _ (h.eV _ hs),by simp,λ i o cU uC=>?_,λ j pL rJ hj rU=>?_⟩
   .exact b3c _ (hg.place i o _ cU uC).2.2
   .exact b3c _ (hg.aW.pl j pL rJ _ hj rU).2.2.1)
  unfold Oper.wp;have c9:(execOp a.eval o).run c.P w = .ok (.value (.slice (some ⟨w.heap.size,0,none⟩) n.toNat m.toNat)) (w.alloc (.cells (madeCells z.cells (m.toNat * i.size)) e)):=by
   simp only[execOp,bL,hl,hc,b1u,hr,b1j,b1w]
  rw[c9];have key:=bH.put (d:=some d) (v := .aD d) (x := .slice (some ⟨w.heap.size,0,none⟩) n.toNat m.toNat) hN ⟨by simp[cN],_,by simp;rfl,_,_,_,rfl⟩;have cY:ai.ah { aE:=(s.gone d).aE.set d (.aD d),aR:=(d, .aD τ (List.replicate n.toNat τ.zero))::(s.gone d).aR }=λ i=>if i=d then some (.aD τ (List.replicate n.toNat τ.zero)) else (s.gone d).ah i:=by
   funext i;exact eK _ _ _ _
  have conv:∀ G',bH c G' (oK (s.gone d).aE.length (s.gone d).sl (some d) (.aD d)) (s.gone d).aE.length (λ i=>if i=d then some (.aD τ (List.replicate n.toNat τ.zero)) else (s.gone d).ah i) (a.put (some d) (.slice (some ⟨w.heap.size,0,none⟩) n.toNat m.toNat)) (w.alloc (.cells (madeCells z.cells (m.toNat * i.size)) e))->Inv c G' { aE:=(s.gone d).aE.set d (.aD d),aR:=(d, .aD τ (List.replicate n.toNat τ.zero))::(s.gone d).aR } (a.put o.dst (.slice (some ⟨w.heap.size,0,none⟩) n.toNat m.toNat)) (w.alloc (.cells (madeCells z.cells (m.toNat * i.size)) e)):=by
   intro G' hh;unfold Inv;rw[cY,hd,show ai.sl { aE:=(s.gone d).aE.set d (.aD d),aR:=(d, .aD τ (List.replicate n.toNat τ.zero))::(s.gone d).aR }=oK (s.gone d).aE.length (s.gone d).sl (some d) (.aD d) from vl _ d _ _,
    show ({ aE:=(s.gone d).aE.set d (.aD d),aR:=(d, .aD τ (List.replicate n.toNat τ.zero))::(s.gone d).aR }:ai).aE.length=(s.gone d).aE.length from by simp]
   exact hh
  exact⟨_,conv _ key⟩
 case h_6 cl bL =>
  split at hq;case h_1 kR =>
   split at hq;case h_2=>cases hq
   case h_1 T id YL CJ =>
   split at hq;case h_2=>cases hq
   case h_1 t r _ τ xs hT bm =>
   simp only[b0L,b0O] at hq;obtain⟨rfl,rfl⟩:=hq;have eU:=bf.tg (bI h) cl.args.toList;rw[CJ] at eU;match pX:cl.args.toList.map a.eval,eU with
   | [x],eU =>
    obtain⟨_,l,gH,ad,m,cap,Kk⟩:=eU.1;have hm:m=xs.length/\xs.length<=140737488355328:=by
     obtain⟨v0,l0,a1,Xo,q1,q2,_,_,q5,_⟩:=h.aW.tr id τ xs bm;rw[gH,Kk] at q1;simp only[b2r] at q1;have q1:(Value.slice ad m cap::l)=v0::l0:=congrArg Array.toList q1;simp only[b0T] at q1;rw[q2] at q1;simp only[b2w] at q1;exact⟨q1.1.2.1,q5⟩
    obtain⟨rfl,hmx⟩:=hm;have OB:cl.argTypes = #[T]:=by rw[<-b1U (xs:=cl.argTypes),YL]
    have Ii:cl.args.map a.eval = #[x]:=by rw[<-b1U (xs:=cl.args.map a.eval),b2K,pX]
    have U3:(execOp a.eval o)=(do let d <-resolve a.eval cl o.type;invoke d.target d.args):=by simp[execOp,bL]
    have Sf:(execOp a.eval o).run c.P w=((Builtin.len_ #[T] o.type #[x]).run c.P w).andThen λ v w => .ok (.value v) w:=by
     rw[U3];simp[resolve,kR,invoke,builtin,OB,Ii]
    obtain⟨k1,_,_⟩:=hE.slice hT;have hel:∃ q,c.P.elem T=q/\c.P.underlying T=some (.slice q):=⟨_,by simp[Program.elem,k1],k1⟩;obtain⟨q,hel,k1⟩:=hel;refine I0 h (x := .int .i64 xs.length) ?_ (Pt ⟨by omega,by omega⟩);rw[Sf,Kk,run_len_slice w T o.type ad xs.length cap (by rw[hel];exact k1)];rfl
  case h_2 f kR =>
   split at hq;case h_2=>cases hq
   case h_1 d hd =>
   split at hq;case h_2=>cases hq
   split at hq;case h_1 m hm =>
    have c9:∀ x y:Value,cl.args.toList.map a.eval=[x,y]->oC c.P f->(execOp a.eval o).run c.P w = .ok (.enter f [x,y].toArray) w:=λ x y hxy rV=>by
     rw[<-hxy];exact lp bL kR rfl rV
    unfold a2L at hq;split at hq;case h_1 id k eU =>
     split at hq;case h_2=>cases hq
     case h_1 τ xs bm =>
     split at hq;case h_2=>cases hq
     case h_1 x hx =>
     split at hq;case h_2=>cases hq
     case h_1 dw DY =>
     simp only[b0L,b0O] at hq;obtain⟨rfl,rfl⟩:=hq;obtain⟨v,z,e1,e2,e3⟩:=TF h eU;obtain⟨KJ,g⟩:=m;have ex:=TV.bj hx;have et:Ty.slice τ=KJ:=congrArg TV.τ ex;subst et;cases ex;have ex':=TV.bj DY;have hxe:(g xs k).2.1=dw:=by cases ex';rfl
     have:=S7 hE h hm bm e2 e3 fZ hd (c9 v z e1) (Q:=Q);rw[<-hxe];exact this
    case h_2 id i off sz k eU =>
     split at hq;case h_2=>cases hq
     case h_1 τ xs bm =>
     split at hq;case h_2=>cases hq
     case h_1 u hu =>
     split at hq;case h_2=>cases hq
     case h_1 x hx hb =>
     split at hq;case h_2=>cases hq
     case h_1 y hy =>
     simp only[Option.some.injEq,Prod.mk.injEq] at hq;obtain⟨rfl,rfl⟩:=hq;simp only[Bool.and_eq_true,Bool.not_eq_true'] at hb;obtain⟨E7,Mn,U0⟩:=hb;have E7:=Nat.eq_of_beq_eq_true E7;subst E7;obtain⟨v,z,e1,e2,e3⟩:=TF h eU;exact Vz hE h hm bm hu hx Mn (by simpa [Nat.blt_eq] using U0) hy e2 e3 fZ hd (c9 v z e1)
    case h_3 cs k eU =>
     split at hq;case h_2=>cases hq
     case h_1 x ids ht =>
     split at hq;case h_2=>cases hq
     case h_1 hb =>
     simp only[b0L,b0O] at hq;obtain⟨rfl,rfl⟩:=hq;simp only[b0R,b1L] at hb;obtain⟨v,z,e1,e2,e3⟩:=TF h eU;exact Vx hE h hm ht (dz hb.1) hb.2 e2 e3 fZ hd (c9 v z e1)
    case h_4=>cases hq
   case h_2 hm =>
    split at hq;case h_2=>cases hq
    case h_1 Z9 has =>
    split at hq;case h_2=>cases hq
    case h_1 pre res hc =>
    split at hq;case h_2=>cases hq
    case h_1 hb =>
    simp only[Option.some.injEq,Prod.mk.injEq] at hq;obtain⟨rfl,rfl⟩:=hq;simp only[Bool.and_eq_true,List.all_eq_true] at hb;exact V0 hE h has (bf.tg (bI h) cl.args.toList) hc fZ hd (λ p hp=>by simpa using hb.1 p hp) (dz hb.2) (by omega) (λ rV=>lp bL kR rfl rV)
  case h_3=>cases hq
 case h_7=>cases hq
end
section
variable {w:World}
theorem cm.join{n:Nat}:∀ (ds:List D) {l:List Value} {fp:List Nat},cm w ds l fp->(∀ d∈ds,d.size=n) ->
  ds.length * n<=l.length/\∀ (es:List D) (m:List Value) (f2:List Nat),cm w es m f2->cm w (ds++es) (l.take (ds.length * n)++m) (fp++f2)
 | [],l,fp,h,_=>by
  have h:fp=[]:=h;subst h;exact⟨by simp,λ es m f2 k=>by simpa using k⟩
 | d::ds,l,fp,h,hn=>by
  obtain⟨c,r,f1,f2,rfl,rfl,h3,h4⟩:=h;have hc:c.length=n:=by rw[Ow.length d h3];exact hn d (by simp)
  obtain⟨k1,k2⟩:=cm.join ds h4 λ d hd=>hn d (by simp[hd]);have e:(d::ds).length * n=c.length+ds.length * n:=by rw[b0Z,b2a,hc];omega
  refine⟨by rw[e,b1l];omega,λ es m f3 k=>?_⟩;refine⟨c,r.take (ds.length * n)++m,f1,f2++f3,?_,by simp,h3,k2 es m f3 k⟩;rw[e,C8,b1P]
theorem cm.rdL{n:Nat}:∀ (ds:List D) {l:List Value} {fp:List Nat},cm w ds l fp->(∀ d∈ds,d.size=n)->gL w (λ _=>True) ds (l.take (ds.length * n))
 | [],l,fp,h,_=>by simp[gL]
 | d::ds,l,fp,h,hn=>by
  obtain⟨c,r,f1,f2,rfl,rfl,h3,h4⟩:=h;have hc:c.length=n:=by rw[Ow.length d h3];exact hn d (by simp)
  have e:(d::ds).length * n=c.length+ds.length * n:=by rw[b0Z,b2a,hc];omega
  exact⟨c,r.take (ds.length * n),by rw[e,C8],Ow.rd d h3 λ _ _=>trivial,cm.rdL ds h4 λ d hd=>hn d (by simp[hd])⟩
theorem MC{τ:Ty}(xs:List τ.den):∀ d∈xs.map τ.bc,d.size=τ.size:=by
 intro d hd;obtain⟨z,_,rfl⟩:=b0S.1 hd;exact Ty.dn τ z
theorem R8{g k:Nat}{l:List Value}{t:TypeId}(h:w.heap[g]?=some (.cells l.toArray t (0,0))):∀ j v,(l.take k)[j]?=some v->w.cell? ((⟨g,0,none⟩:Addr).add j)=some v:=by
 intro j v hj;rw[Addr.add_lit];have:=HO (w:=w) (b:=g) (p:=[]) (c:=l.take k) (r:=l.drop k) (t:=t) (by simpa using h) j v hj;simpa using this
theorem Py{P:Program}(t ty e:TypeId)(i:TypeInfo)(ht:P.underlying t=some (.slice e))(hi:P.info? e=some i)
  (g Wa a5Q:Nat) (cur:Array Value) (t2:TypeId) (hg:w.heap[g]?=some (.cells cur t2 (0,0)))
  (a:Addr) (m c:Nat) (news:List Value) (hl:news.length=m * i.size) (U7:∀ j u,news[j]?=some u->w.cell? (a.add j)=some u) (h1:∀ u∈news,u.oneCell'=true)
  (Fb:Wa+m<=a5Q) (DU:Wa * i.size+news.length<=cur.size) :
  (Builtin.append_ #[t,t] ty #[.slice (some ⟨g,0,none⟩) Wa a5Q, .slice (some a) m c]).run P w =
   .ok (.slice (some ⟨g,0,none⟩) (Wa+m) a5Q) (w.setRow g (cur.toList.take (Wa * i.size)++news++cur.toList.drop (Wa * i.size+news.length)).toArray):=by
 have hf:=run_firstCells_some (P:=P) w i.size m a m c news hl U7;have cI:=run_storeCells_at P g (Wa * i.size) t2 news 0 cur w hg (by simpa using DU) h1;simp only[Nat.add_zero] at cI;simp[Builtin.append_,run_underlying ht,sizeOf,typeInfo,hi,Builtin.lenOf,Fb,hf,Addr.add_lit,cI]
theorem XH{τ:Ty}{zs:List τ.den}{q:List Value}{fp:List Nat}{z:Array Value}{cap:Nat}{e:TypeId}(hq:cm w (zs.map τ.bc) q fp)(hql:q.length=zs.length * τ.size)(hzs:z.size=τ.size)
  (hc:zs.length<=cap) (hm:cap<=maxLen) (h47:zs.length<=140737488355328) (bX:∀ b∈fp,b<w.heap.size) :
  l6 (w.drew.alloc (.cells (q.toArray++Builtin.zeroCells z (cap - zs.length)) e)) (.tuple (.slice (some ⟨w.heap.size,0,none⟩) zs.length cap::(q.toArray++Builtin.zeroCells z (cap - zs.length)).toList).toArray) τ zs (w.heap.size::fp):=by
 refine⟨_,_,some ⟨w.heap.size,0,none⟩,cap,rfl,rfl,hc,hm,h47, .inr ⟨w.heap.size,fp,e,rfl,rfl,?_,?_,?_⟩⟩
 .rw[b1U];exact b3S w.drew _
 .simp only[b4D,b1l,hql,b1S,size_zeroCells,hzs];rw[<-b2a];congr 1;omega
 .rw[b4D];have hk:∀ b∈fp,(w.drew.alloc (.cells (q.toArray++Builtin.zeroCells z (cap - zs.length)) e)).heap[b]?=w.heap[b]?:=λ b hb=>heap_alloc_old w.drew _ b (bX b hb);have:=cm.bd _ hq hk;have more:∀ (ds:List D) {l:List Value} {f:List Nat} (m:List Value),cm (w.drew.alloc (.cells (q.toArray++Builtin.zeroCells z (cap - zs.length)) e)) ds l f->cm (w.drew.alloc (.cells (q.toArray++Builtin.zeroCells z (cap - zs.length)) e)) ds (l++m) f:=by
   intro ds;induction ds with
   | nil=>intro l f m h;exact h
   | cons d ds ih =>
    intro l f m h;obtain⟨cc,r,f1,f2,rfl,hf,h3,h4⟩:=h;exact⟨cc,r++m,f1,f2,by simp,hf,h3,ih m h4⟩
  exact more _ _ this
end
section
variable {c:Ctx} {G:Gh} {sl:Nat->AV} {n:Nat} {lk:Nat->Option aG} {a:Act} {w w':World}
theorem Yp(hE:bU c.P c.E){T:TypeId}{τ:Ty}{b e:Nat}(hT:ah c.E.ty T=some (.slice τ,b,e)){xs ys:List τ.den}{x y:Value}{fx fy:List Nat}
  (hx:Ow w (.slice τ.size (xs.map τ.bc)) [x] fx) (hy:Ow w (.slice τ.size (ys.map τ.bc)) [y] fy) (hlx:∀ k∈fx,k<w.heap.size) (hly:∀ k∈fy,k<w.heap.size) (U9:fx.Nodup) (hny:fy.Nodup) (hd:∀ k∈fx,k∉fy)
  (Fb:bF (xs.length+ys.length) b) (ty:TypeId) :
  ∃ v' w' fp l,(Builtin.append_ #[T,T] ty #[x,y]).run c.P w = .ok v' w'/\l6 w' (.tuple (v'::l).toArray) τ (xs++ys) fp/\(∃ a n m,v' = .slice a n m)/\fp.Nodup/\(∀ k∈fp,k∈fx\/k∈fy\/(w.heap.size<=k/\k<w'.heap.size))/\bV (λ k=>k∈fx) w w':=by
 obtain⟨k1,⟨b',e',k2⟩,i,zv,k3,k4,k5,k6,k7⟩:=hE.slice hT;have hzs:zv.cells.size=τ.size:=by
  have:=Rd.length _ (P9 (w:=w) (S:=λ _=>True) k7);rwa [Ty.dn,b1S] at this
 have OO:=τ.size_pos;have S1:(xs.length+ys.length) * b<=140737488355328/\xs.length+ys.length<=140737488355328:=by
  unfold bF at Fb;rw[Nat.mul_add,Nat.mul_one] at Fb;omega
 have ON:xs.length+ys.length<=maxLen:=by simp only[maxLen];omega
 obtain⟨lx,hxT,_⟩:=l6.Zg hx;have hx0:=hx;obtain⟨ax,KP,x1,x2,x3,x4,x5⟩:=hx;obtain⟨ay,ZO,y1,y2,y3,y4,y5⟩:=hy;simp only[b0T,b1b,b1o] at x1 x2 x4 y1 y2 y4;subst x1 y1;have same:(Builtin.append_ #[T,T] ty #[.slice ax xs.length KP, .slice ay ys.length ZO]).run c.P w = .ok (.slice ax xs.length KP) w->ys=[]->∃ v' w' fp l,(Builtin.append_ #[T,T] ty #[.slice ax xs.length KP, .slice ay ys.length ZO]).run c.P w = .ok v' w'/\l6 w' (.tuple (v'::l).toArray) τ (xs++ys) fp/\(∃ a n m,v' = .slice a n m)/\fp.Nodup/\(∀ k∈fp,k∈fx\/k∈fy\/(w.heap.size<=k/\k<w'.heap.size))/\bV (λ k=>k∈fx) w w':=by
  intro hr he;subst he;exact⟨_,w,fx,lx,hr,by simpa using hxT,⟨_,_,_,rfl⟩,U9,λ k hk => .inl hk,bV.refl _ _⟩
 rcases y5 with ⟨q1,⟨q2,q3⟩,q4⟩|⟨gy,f2,l2,t2,q1,q2,q3,q4,q5⟩
 .have QE:ys=[]:=by simpa using q1
  subst QE;refine same ?_ rfl;subst q2;simp[Builtin.append_,b1Q k1,sizeOf,typeInfo,k3,Builtin.lenOf,Builtin.firstCells,x2,storeCells];cases ax<;>rfl
 .subst q1 q2;have hsy:=MC ys;obtain⟨j1,_⟩:=cm.join _ q5 hsy;rw[b1o] at j1;have Fa:(l2.take (ys.length * τ.size)).length=ys.length * τ.size:=by rw[b1C];omega
  have Ie:∀ u∈l2.take (ys.length * τ.size),u.oneCell'=true:=by
   have:=cm.rdL _ q5 hsy;rw[b1o] at this;exact gL.wi this
  have U7:=R8 (w:=w) (k:=ys.length * τ.size) q3;have a5m:cm w (ys.map τ.bc) (l2.take (ys.length * τ.size)) f2:=by
   have:=(cm.join _ q5 hsy).2 [] [] [] rfl;simpa using this
  rcases x5 with ⟨p1,⟨p2,p3⟩,p4⟩|⟨gx,f1,l1,t1,p1,p2,p3,p4,p5⟩
  .have pX:xs=[]:=by simpa using p1
   subst pX p2 p3 p4;by_cases hm:ys=[]
   .refine same ?_ hm;subst hm;simp[Builtin.append_,b1Q k1,sizeOf,typeInfo,k3,Builtin.lenOf,Builtin.firstCells,loadCells,loadCellsFrom]
   .have hm0:0<ys.length:=List.length_pos_iff.2 hm;have hr:=run_append_nil (P:=c.P) w T ty e i zv k1 k3 k6 ⟨gy,0,none⟩ ys.length ZO (l2.take (ys.length * τ.size)) (by rw[Fa,k4]) U7 hm0 (by omega) (by rw[k5];have:=S1.1;simp only[List.length_nil,Nat.zero_add] at this;omega);have hg:=XH (w:=w) (e:=e) (zs:=ys) (cap:=grownCap w ys.length 0 e) a5m Fa hzs (grownCap_ge w ys.length 0 e) (grownCap_le_maxLen w ys.length 0 e (by simpa using ON)) (by omega) (λ k hk=>hly k (by simp[hk]));refine⟨.slice (some ⟨w.heap.size,0,none⟩) ys.length (grownCap w ys.length 0 e),w.drew.alloc (.cells ((l2.take (ys.length * τ.size)).toArray++Builtin.zeroCells zv.cells (grownCap w ys.length 0 e - ys.length)) e),w.heap.size::f2,_,hr,hg,⟨_,_,_,rfl⟩,?_,?_,⟨rfl,rfl,rfl,by simp,λ k hk _=>heap_alloc_old w.drew _ k hk⟩⟩
    .rw[b1G] at hny ⊢;exact⟨λ hh=>b3c _ (hly _ (by simp[hh])),hny.2⟩
    .intro k hk;rcases b1e.1 hk with rfl|hk
     .exact .inr (.inr ⟨b1E _,by simp⟩)
     .exact .inr (.inl (by simp[hk]))
  .subst p1 p2;have hsx:=MC xs;obtain⟨i1,i2⟩:=cm.join _ p5 hsx;rw[b1o] at i1 i2;have xQ:(l1.take (xs.length * τ.size)).length=xs.length * τ.size:=by rw[b1C];omega
   have U8:(f1++f2).Nodup/\gx∉f1++f2:=by
    rw[b1G] at U9 hny;refine⟨b1k.2 ⟨U9.2,hny.2,λ k hk k' qp e=>?_⟩,λ hh=>?_⟩
    .subst e;exact hd k (by simp[hk]) (by simp[qp])
    .rcases b0Q.1 hh with hh|hh
     .exact U9.1 hh
     .exact hd gx (by simp) (by simp[hh])
   have gO:=i2 (ys.map τ.bc) _ f2 a5m;rw[<-b2G] at gO;by_cases DU:xs.length+ys.length<=KP
   .have oR:xs.length * i.size+(l2.take (ys.length * τ.size)).length<=l1.toArray.size:=by
     rw[Fa,k4,<-b2a,List.size_toArray,p4];exact b2P _ DU
    have hr:=Py (P:=c.P) (w:=w) T ty e i k1 k3 gx xs.length KP l1.toArray t1 p3 ⟨gy,0,none⟩ ys.length ZO (l2.take (ys.length * τ.size)) (by rw[Fa,k4]) U7 Ie DU oR;have jF:∀ k,k≠gx->(w.setRow gx (l1.toArray.toList.take (xs.length * i.size)++l2.take (ys.length * τ.size)++l1.toArray.toList.drop (xs.length * i.size+(l2.take (ys.length * τ.size)).length)).toArray).heap[k]?=w.heap[k]?:=λ k hk=>ru w p3 k hk;refine⟨_,_,gx::(f1++f2),(l1.take (xs.length * τ.size)++l2.take (ys.length * τ.size)++l1.drop (xs.length * τ.size+ys.length * τ.size)),hr,?_,⟨_,_,_,rfl⟩,b1G.2 ⟨U8.2,U8.1⟩,?_,⟨rfl,rfl,rfl,by simp[World.setRow],λ k hk gU=>jF k λ e=>gU (by simp[e])⟩⟩
    .refine⟨_,_,some ⟨gx,0,none⟩,KP,rfl,by simp,by simpa using DU,x3,by simp;omega, .inr ⟨gx,f1++f2,t1,rfl,rfl,?_,?_,?_⟩⟩
     .have:=b4I w gx l1.toArray (l1.toArray.toList.take (xs.length * i.size)++l2.take (ys.length * τ.size)++l1.toArray.toList.drop (xs.length * i.size+(l2.take (ys.length * τ.size)).length)).toArray t1 (0,0) p3;rw[this,Fa,k4]
     .simp only[b1l,xQ,Fa,b1Y,p4];have:xs.length * τ.size+ys.length * τ.size<=KP * τ.size:=by rw[<-b2a];exact b2P _ DU
      omega
     .have hk:∀ k∈f1++f2,(w.setRow gx (l1.toArray.toList.take (xs.length * i.size)++l2.take (ys.length * τ.size)++l1.toArray.toList.drop (xs.length * i.size+(l2.take (ys.length * τ.size)).length)).toArray).heap[k]?=w.heap[k]?:=λ k hk=>jF k λ e=>U8.2 (e ▸ hk);have h2:=cm.bd _ gO hk;have more:∀ (w2:World) (ds:List D) {l:List Value} {f:List Nat} (m:List Value),cm w2 ds l f->cm w2 ds (l++m) f:=by
       intro w2 ds;induction ds with
       | nil=>intro l f m h;exact h
       | cons d ds ih =>
        intro l f m h;obtain⟨cc,r,f1,f2,rfl,hf,h3,h4⟩:=h;exact⟨cc,r++m,f1,f2,by simp,hf,h3,ih m h4⟩
      exact more _ _ _ h2
    .intro k hk;rcases b1e.1 hk with rfl|hk
     .exact .inl (by simp)
     .rcases b0Q.1 hk with hk|hk
      .exact .inl (by simp[hk])
      .exact .inr (.inl (by simp[hk]))
   .have hr:=run_append_grow (P:=c.P) w T ty e i zv k1 k3 k6 ⟨gx,0,none⟩ xs.length KP (l1.take (xs.length * τ.size)) (by rw[xQ,k4]) (R8 p3) ⟨gy,0,none⟩ ys.length ZO (l2.take (ys.length * τ.size)) (by rw[Fa,k4]) U7 (by omega) (by omega) (by rw[k5];exact growslice_fits (by omega) S1.1);have hql:(l1.take (xs.length * τ.size)++l2.take (ys.length * τ.size)).length=(xs++ys).length * τ.size:=by rw[b1l,xQ,Fa,b1l,b2a]
    have hle:(xs++ys).length=xs.length+ys.length:=b1l;have bX:∀ k∈f1++f2,k<w.heap.size:=λ k hk=>by
     rcases b0Q.1 hk with hk|hk
     .exact hlx k (by simp[hk])
     .exact hly k (by simp[hk])
    have hg:=XH (w:=w) (e:=e) (zs:=xs++ys) (cap:=grownCap w (xs.length+ys.length) KP e) gO hql hzs (by rw[hle];exact grownCap_ge w _ _ e) (grownCap_le_maxLen w _ _ e ON) (by omega) bX;rw[hle] at hg;refine⟨_,w.drew.alloc (.cells ((l1.take (xs.length * τ.size)).toArray++(l2.take (ys.length * τ.size)).toArray++Builtin.zeroCells zv.cells (grownCap w (xs.length+ys.length) KP e - (xs.length+ys.length))) e),w.heap.size::(f1++f2),_,hr,by simpa [hle] using hg,⟨_,_,_,rfl⟩,?_,?_,⟨rfl,rfl,rfl,by simp,λ k hk _=>heap_alloc_old w.drew _ k hk⟩⟩
    .exact b1G.2 ⟨λ hh=>b3c _ (bX _ hh),U8.1⟩
    .intro k hk;rcases b1e.1 hk with rfl|hk
     .exact .inr (.inr ⟨b1E _,by simp⟩)
     .rcases b0Q.1 hk with hk|hk
      .exact .inl (by simp[hk])
      .exact .inr (.inl (by simp[hk]))
end
section
variable {c:Ctx} {G:Gh} {s:ai} {a:Act} {w w':World}
theorem Inv.built(h:Inv c G s a w){ids:List Nat}{d:Nat}{τ:Ty}{zs:List τ.den}{fp:List Nat}{v':Value}{l:List Value}(hk:bV (λ b=>yG G s.ah ids b) w w')(hT:l6 w' (.tuple (v'::l).toArray) τ zs fp)
  (hv:∃ a n m,v' = .slice a n m) (dt:fp.Nodup) (tl:∀ b∈fp,yG G s.ah ids b\/(w.heap.size<=b/\b<w'.heap.size)) (vK:(ids.foldl ai.gone s).ah (cn d)=none) :
  ∃ G',Inv c G' ((ids.foldl ai.gone s).wL d τ zs) (a.put (some d) v') w':=by
 have h1:Inv c G (ids.foldl ai.gone s) a w:=zI ids h;have hF:∀ b,yG G s.ah ids b->yF c G (ids.foldl ai.gone s).ah w b:=λ b hb=>Ol h hb;generalize hs1:ids.foldl ai.gone s=s1 at *
 have nG:∀ b,b<w.heap.size->¬ yG G s.ah ids b->w'.heap[b]?=w.heap[b]?:=λ b hb hn=>hk.block b hb hn;have h2:bH c G s1.sl s1.aE.length s1.ah a w':=by
  refine bH.world (S':=G.S) h1 ⟨hk.os,hk.tape,hk.output,hk.size,λ b hb hn=>nG b hb λ hi=>hn (hF b hi).1⟩ (λ _ h=>h) (λ _ _=>b2L) h1.sX (λ b hb=>b1c (h1.eV b hb) hk.size) ?_ ?_ ?_
  .intro b hb;rcases hb with hb|hb
   .exact nG b (h1.eV b hb) λ hi=>(hF b hi).2.1 hb
   .exact nG b (b1c hb.1 h1.bd.size) λ hi=>(hF b hi).1.elim (λ q=>by omega) hb.2.1
  .intro id o b ho hb;exact nG b (h1.place id o b ho hb).2.2 λ hi=>(hF b hi).2.2.2.1 id o ho hb
  .intro id bw dw b ht hb;exact nG b (h1.aW.pl id bw dw b ht hb).2.2.1 λ hi=>(hF b hi).2.2.2.2 id bw dw ht hb
 obtain⟨r1,r2⟩:=h2.VP vK;have hR:c.R (cn d)=none:=by
  cases hr:c.R (cn d) with
  | none=>rfl
  | some v=>have:=(h.mG _ v hr).2;unfold cn at this;omega
 have h3:=h2.VL (cn d) τ zs _ fp vK r1 r2 hR hT dt (λ b hb=>by
  rcases tl b hb with hi|⟨q1,q2⟩
  .obtain⟨f1,f2,f3,f4,f5⟩:=hF b hi;exact⟨f1,f2,b1c f3 hk.size,f4,f5⟩
  .refine⟨.inl (b3a h1.bd.size q1),λ hs=>?_,q2,λ i o cU uC=>?_,λ j pL rJ hj rU=>?_⟩
   .have:=h1.eV b hs;omega
   .have:=(h1.place i o b cU uC).2.2;omega
   .have:=(h1.aW.pl j pL rJ b hj rU).2.2.1;omega)
 have key:=bH.put (d:=some d) (v := .aD (cn d)) (x:=v') h3 ⟨by simp[cN],l,by simp,hv⟩;have cY:(s1.wL d τ zs).ah=λ i=>if i=cn d then some (.aD τ zs) else s1.ah i:=by
  funext i;exact eK _ _ _ _
 have conv:∀ G',bH c G' (oK s1.aE.length s1.sl (some d) (.aD (cn d))) s1.aE.length (λ i=>if i=cn d then some (.aD τ zs) else s1.ah i) (a.put (some d) v') w'->Inv c G' (s1.wL d τ zs) (a.put (some d) v') w':=by
  intro G' hh;unfold Inv;rw[cY,show (s1.wL d τ zs).sl=oK s1.aE.length s1.sl (some d) (.aD (cn d)) from vl _ d _ _,show (s1.wL d τ zs).aE.length=s1.aE.length from by simp[ai.wL]];exact hh
 exact⟨_,conv _ key⟩
theorem Inv.over{s1:ai}{X:Nat->Prop}(h1:Inv c G s1 a w)(hF:∀ b,X b->yF c G s1.ah w b)(hk:bV X w w'):bH c G s1.sl s1.aE.length s1.ah a w':=by
 have nG:∀ b,b<w.heap.size->¬ X b->w'.heap[b]?=w.heap[b]?:=λ b hb hn=>hk.block b hb hn;refine bH.world (S':=G.S) h1 ⟨hk.os,hk.tape,hk.output,hk.size,λ b hb hn=>nG b hb λ hi=>hn (hF b hi).1⟩ (λ _ h=>h) (λ _ _=>b2L) h1.sX (λ b hb=>b1c (h1.eV b hb) hk.size) ?_ ?_ ?_
 .intro b hb;rcases hb with hb|hb
  .exact nG b (h1.eV b hb) λ hi=>(hF b hi).2.1 hb
  .exact nG b (b1c hb.1 h1.bd.size) λ hi=>(hF b hi).1.elim (λ q=>by omega) hb.2.1
 .intro id o b ho hb;exact nG b (h1.place id o b ho hb).2.2 λ hi=>(hF b hi).2.2.2.1 id o ho hb
 .intro id bw dw b ht hb;exact nG b (h1.aW.pl id bw dw b ht hb).2.2.1 λ hi=>(hF b hi).2.2.2.2 id bw dw ht hb
theorem yF.a6G{lk:Nat->Option aG}{b:Nat}(h:yF c G lk w b):¬ SX G lk b:=by
 rintro (hb|⟨id,e,τ,ys,bm,hb⟩|⟨id,τ,ys,bm,hb⟩)
 .exact h.2.1 hb
 .exact h.2.2.2.1 id _ bm hb
 .exact h.2.2.2.2 id τ ys bm hb
theorem AO(h:Inv c G s a w):∀ {fl:List Bool} {Ts:List TypeId} {vs:List AV} {xs:List Value} {own:List (Option TV)} {ids:List Nat},kO c.E s.ah fl Ts vs=some (own,ids)->ids.Nodup->bf (VR c G s.ah w) vs xs ->
  ∃ CD:List (List Nat),bf (λ (o:Option TV) (q:Value×List Nat)=>match o with
   | some v=>Dh w v q.1 q.2
   | none=>q.2=[]) own (xs.zip CD)/\CD.length=xs.length/\CD.flatten.Nodup/\∀ b∈CD.flatten,yG G s.ah ids b
 | [],[],[],[],own,ids,ht,_,_=>by
  simp only[kO,b0L,b0O] at ht;obtain⟨rfl,rfl⟩:=ht;exact⟨[],af,rfl,by simp,by simp⟩
 | true::fl,T::Ts,v::vs,x::xs,own,ids,ht,hn,hv=>by
  simp only[kO] at ht;split at ht;case h_2=>cases ht
  case h_1 τ q hT =>
  split at ht;case h_2=>cases ht
  case h_1 y i hy =>
  split at ht;case h_2=>cases ht
  case h_1 r j hr =>
  simp only[b0L,b0O] at ht;obtain⟨rfl,rfl⟩:=ht;rw[b1k] at hn;obtain⟨n1,n2,n3⟩:=hn;obtain⟨f1,o1,o2,o3⟩:=qV h hy hv.1 n1;obtain⟨CD,p1,p2,p3,p4⟩:=AO h hr n2 hv.2;refine⟨f1::CD,⟨o1,p1⟩,by simp[p2],?_,?_⟩
  .rw[List.flatten_cons];exact fK o2 p3 λ b hb cO=>h.mN (o3 b hb) (p4 b cO) (λ x hx y hy=>n3 x hx y hy)
  .intro b hb;rw[List.flatten_cons] at hb;rcases b0Q.1 hb with hb|hb
   .exact (o3 b hb).mono λ i hi=>by simp[hi]
   .exact (p4 b hb).mono λ i hi=>by simp[hi]
 | false::fl,T::Ts,v::vs,x::xs,own,ids,ht,hn,hv=>by
  simp only[kO] at ht;split at ht;case h_2=>cases ht
  case h_1 r j hr =>
  simp only[Option.some.injEq,Prod.mk.injEq] at ht;obtain⟨rfl,rfl⟩:=ht;obtain⟨CD,p1,p2,p3,p4⟩:=AO h hr hn hv.2;exact⟨[]::CD,⟨rfl,p1⟩,by simp[p2],by simpa using p3,by simpa using p4⟩
 | [],_::_,_,_,_,_,ht,_,_=>by simp[kO] at ht
 | [],[],_::_,_,_,_,ht,_,_=>by simp[kO] at ht
 | [],[],[],_::_,_,_,_,_,hv=>hv.elim
 | true::_,[],_,_,_,_,ht,_,_=>by simp[kO] at ht
 | false::_,[],_,_,_,_,ht,_,_=>by simp[kO] at ht
 | true::_,_::_,[],_,_,_,ht,_,_=>by simp[kO] at ht
 | false::_,_::_,[],_,_,_,ht,_,_=>by simp[kO] at ht
 | _,_,_::_,[],_,_,_,_,hv=>hv.elim
theorem xS(hE:bU c.P c.E)(h:Inv c G s a w):∀ {own:List (Option TV)} {Ts:List TypeId} {vs:List AV} {xs:List Value} {CD:List (List Nat)} {Z9:List Arg},iT c.E s.ah own Ts vs=some Z9 ->
  bf (λ (o:Option TV) (q:Value×List Nat)=>match o with
   | some v=>Dh w v q.1 q.2
   | none=>q.2=[]) own (xs.zip CD)->CD.length=xs.length->bf (VR c G s.ah w) vs xs->xH c.P w (SX G s.ah) Z9 xs CD.flatten/\∀ a∈Z9,a.M6=true
 | [],[],[],[],CD,Z9,hm,hO,hl,hv=>by
  simp only[iT,Option.some.injEq] at hm;subst hm;have:CD=[]:=List.eq_nil_of_length_eq_zero (by simpa using hl);subst this;exact⟨rfl,by simp⟩
 | some y::own,T::Ts,v::vs,x::xs,f::CD,Z9,hm,hO,hl,hv=>by
  simp only[iT] at hm;split at hm;case h_2=>cases hm
  case h_1 r hr =>
  simp only[Option.some.injEq] at hm;subst hm;obtain⟨q1,q2⟩:=xS hE h hr hO.2 (by simpa using hl) hv.2;refine⟨⟨f,CD.flatten,by simp,hO.1,q1⟩,λ a ha=>?_⟩;rcases List.mem_cons.1 ha with rfl|ha
  .rfl
  .exact q2 a ha
 | none::own,T::Ts,v::vs,x::xs,f::CD,Z9,hm,hO,hl,hv=>by
  simp only[iT] at hm;split at hm;case h_2=>cases hm
  case h_1 y hy =>
  split at hm;case h_2=>cases hm
  case h_1 r Si hr =>
  simp only[Option.some.injEq] at hm;subst hm;obtain⟨q1,q2⟩:=xS hE h hr hO.2 (by simpa using hl) hv.2;have hf:f=[]:=hO.1;subst hf;have h1:=l7 hE h (λ _ _ h=>h) (λ _ h => .inl h) (λ τ v x y h1 h2=>EM h.aW h.aR (λ _ _ h=>h) h1 h2) (Ts:=[T]) (vs:=[v]) (Z9:=[y]) (xs:=[x]) (by simp only[qX,hy]) ⟨hv.1,af⟩;refine⟨⟨[],CD.flatten,by simp,?_,q1⟩,λ a ha=>?_⟩
  .have h1:=h1.1;cases y with
   | own v=>exact h1.elim
   | box k=>exact h1.elim
   | _=>exact⟨rfl,h1⟩
  .rcases b1e.1 ha with rfl|ha
   .exact Si
   .exact q2 a ha
 | [],[],[],_::_,_,_,_,_,_,hv=>hv.elim
 | _,_,_::_,[],_,_,_,_,_,hv=>hv.elim
 | [],_::_,_,_,_,_,hm,_,_,_=>by simp[iT] at hm
 | [],[],_::_,_,_,_,hm,_,_,_=>by simp[iT] at hm
 | some _::_,[],_,_,_,_,hm,_,_,_=>by simp[iT] at hm
 | none::_,[],_,_,_,_,hm,_,_,_=>by simp[iT] at hm
 | some _::_,_::_,[],_,_,_,hm,_,_,_=>by simp[iT] at hm
 | none::_,_::_,[],_,_,_,hm,_,_,_=>by simp[iT] at hm
 | _::_,_::_,_::_,_::_,[],_,_,_,hl,_=>by simp at hl
theorem Wj{lk:Nat->Option aG}{τ:Ty}:∀ {ps:List (Nat×AV)} {n:Nat} {xs:List τ.den} {ids:List Nat},I7 lk τ n ps=some (xs,ids)->xs.length=ps.length
 | [],n,xs,ids,h=>by
  simp only[I7,b0L,b0O] at h;obtain⟨rfl,_⟩:=h;rfl
 | (i,v)::ps,n,xs,ids,h=>by
  simp only[I7] at h;split at h
  .split at h
   .split at h
    .rename_i q;simp only[b0L,b0O] at h;obtain⟨rfl,_⟩:=h;simp[Wj q]
    .cases h
   .cases h
  .cases h
theorem Sz(h:Inv c G s a w){τ:Ty}{place:Nat->Option (Nat×Nat)}(hp:∀ i,place i=some (i * τ.size,τ.size)) :
  ∀ {ps:List (Nat×AV)} {vs:List (Nat×Value)} {n:Nat} {xs:List τ.den} {ids:List Nat} {l:List Value},I7 s.ah τ n ps=some (xs,ids)->bf (λ p q=>p.1=q.1/\VR c G s.ah w p.2 q.2) ps vs->ids.Nodup ->
   (n+ps.length) * τ.size=l.length->∃ r fp,Instr.fill place l.toArray vs=some (l.take (n * τ.size)++r).toArray/\cm w (xs.map τ.bc) r fp/\r.length=xs.length * τ.size/\fp.Nodup/\∀ b∈fp,yG G s.ah ids b
 | [],[],n,xs,ids,l,h1,_,_,hl=>by
  simp only[I7,b0L,b0O] at h1;obtain⟨rfl,rfl⟩:=h1;refine⟨[],[],?_,rfl,by simp,b2c,by simp⟩;simp only[b1n,b2I] at hl;rw[hl,b3p,b2h];rfl
 | (i,v)::ps,(j,x)::vs,n,xs,ids,l,h1,hv,dt,hl=>by
  obtain⟨⟨DV,hx⟩,Vf⟩:=hv;have DV:i=j:=DV;subst DV;simp only[I7] at h1;split at h1
  .rename_i gT;have gT:=b0P gT;subst gT;split at h1
   .rename_i y i1 hy;split at h1
    .rename_i ys js QE;simp only[b0L,b0O] at h1;obtain⟨rfl,rfl⟩:=h1;rw[b1k] at dt;obtain⟨n1,n2,n3⟩:=dt;obtain⟨f1,o1,o2,o3⟩:=qV h hy hx n1;have hr:=Dh.cells o1;have dh:x.cells.size=τ.size:=by
      have:=Ow.length _ hr;rw[Ty.dn] at this;simpa using this
     simp only[b0Z] at hl;have OO:=τ.size_pos;have e1:(i+(ps.length+1)) * τ.size=i * τ.size+τ.size+ps.length * τ.size:=by
      rw[b2a,b2a];omega
     rw[Qt place i _ _ x vs l (hp i) dh (by omega)];obtain⟨r,f2,q1,q2,q3,q4,q5⟩:=Sz h hp (l:=l.take (i * τ.size)++x.cells.toList++l.drop (i * τ.size+τ.size)) QE Vf n2 (by
      simp[dh];rw[show (i+1+ps.length) * τ.size=i * τ.size+τ.size+ps.length * τ.size by rw[b2a,b2a];omega];omega)
     refine⟨x.cells.toList++r,f1++f2,?_,⟨_,_,f1,f2,rfl,rfl,hr,q2⟩,?_,?_,?_⟩
     .rw[q1];congr 2;rw[show (i+1) * τ.size=i * τ.size+τ.size by rw[b2a];omega];have ht:(l.take (i * τ.size)++x.cells.toList).length=i * τ.size+τ.size:=by simp[dh];omega
      rw[<-ht,b2T,b1P]
     .simp only[b1l,b0Z,b1S,dh,q3,b2a];omega
     .exact fK o2 q4 λ b hb cO=>h.mN (o3 b hb) (q5 b cO) (λ x hx y hy=>n3 x hx y hy)
     .intro b hb;rcases b0Q.1 hb with hb|hb
      .exact (o3 b hb).mono λ i hi=>by simp[hi]
      .exact (q5 b hb).mono λ i hi=>by simp[hi]
    .cases h1
   .cases h1
  .cases h1
 | [],_::_,_,_,_,_,_,hv,_,_=>hv.elim
 | _::_,[],_,_,_,_,_,hv,_,_=>hv.elim
theorem bV.a5D{X Y:Nat->Prop}{w w':World}(h:bV X w w')(hXY:∀ b,X b->Y b):bV Y w w':=⟨h.os,h.tape,h.output,h.size,λ b hb hn=>h.block b hb λ hx=>hn (hXY b hx)⟩
theorem Y4(h:Inv c G s a w){ids:List Nat}{b:Nat}(hb:yG G s.ah ids b):b<w.heap.size:=(Ol h hb).2.2.1
theorem a0N{lk:Nat->Option aG}{τ:Ty}{v:AV}{r:τ.den×List Nat}(h:fF lk τ v=some r):v.cell=true\/∃ s x,v = .aT ⟨.st s,x⟩:=by
 cases v with
 | aT u =>
  obtain⟨bw,x⟩:=u;cases bw with
  | st s=>exact .inr ⟨s,x,rfl⟩
  | _=>exact .inl rfl
 | nil=>exact .inl rfl
 | aD id=>exact .inl rfl
 | row id=>exact .inl rfl
 | _=>simp[fF] at h
theorem a5T(h:Inv c G s a w){τ:Ty}{v:AV}{x:Value}{xs:List τ.den}{ids:List Nat}(ht:fF s.ah (.slice τ) v=some (xs,ids))(hv:VR c G s.ah w v x):∃ fp,Ow w (.slice τ.size (xs.map τ.bc)) [x] fp/\fp.Nodup/\∀ b∈fp,yG G s.ah ids b:=by
 rcases a0N ht with hc|⟨st,y,rfl⟩
 .exact Co h ht (hv.Yf hc)
 .simp[fF,Ty.Cn] at ht
theorem oG:∀ {us:List TV} {cs:List Value} {fp:List Nat},dE w (us.map TV.bc) cs fp->Dj us->dE w ((us.map a1q).map TV.bc) cs fp
 | [],_,_,h,_=>h
 | ⟨τ,x⟩::us,cs,fp,h,hf=>by
  obtain⟨v,r,f1,f2,rfl,rfl,h3,h4⟩:=h;cases τ with
  | mv t =>
   have hf:Option.isSome (α:=List t.den) x=true/\Dj us:=hf;refine⟨v,r,f1,f2,rfl,rfl,?_,oG h4 hf.2⟩;match x,hf.1,h3 with
   | some l,_,h3=>exact h3
  | ptr=>exact⟨v,r,f1,f2,rfl,rfl,h3,oG h4 hf⟩
  | int k=>exact⟨v,r,f1,f2,rfl,rfl,h3,oG h4 hf⟩
  | bool=>exact⟨v,r,f1,f2,rfl,rfl,h3,oG h4 hf⟩
  | str=>exact⟨v,r,f1,f2,rfl,rfl,h3,oG h4 hf⟩
  | slice t=>exact⟨v,r,f1,f2,rfl,rfl,h3,oG h4 hf⟩
  | st q=>exact⟨v,r,f1,f2,rfl,rfl,h3,oG h4 hf⟩
theorem Oc:∀ {us:List TV} {cs:List Value} {fp:List Nat},dE w (us.map TV.bc) cs fp->(∀ u∈us,u.τ.TQ=true)->dE w ((us.map YA).map TV.bc) cs []
 | [],_,_,h,_=>⟨h.1,rfl⟩
 | ⟨τ,x⟩::us,cs,fp,h,hf=>by
  obtain⟨v,r,f1,f2,rfl,rfl,h3,h4⟩:=h;have hr:=Oc h4 λ u hu=>hf u (by simp[hu]);have sc:τ.Cn=true->Ow w (τ.bc x) [v] []:=λ hs=>Ow.iv (S:=λ _=>True) _ (xC hs x) (Ow.rd _ h3 λ _ _=>trivial);have hm:τ.TQ=true:=hf ⟨τ,x⟩ (by simp);cases τ with
  | mv t =>
   refine⟨v,r,[],[],rfl,rfl,?_,hr⟩;match x,h3 with
   | some l,h3=>obtain⟨a',cap,k1,_⟩:=h3;exact⟨⟨_,_,_,k1⟩,rfl⟩
   | none,h3=>exact⟨h3.1,rfl⟩
  | int k=>exact⟨v,r,[],[],rfl,rfl,sc rfl,hr⟩
  | bool=>exact⟨v,r,[],[],rfl,rfl,sc rfl,hr⟩
  | str=>exact⟨v,r,[],[],rfl,rfl,sc rfl,hr⟩
  | slice t=>cases hm
  | ptr=>exact⟨v,r,[],[],rfl,rfl,sc rfl,hr⟩
  | st q=>cases hm
theorem a3S(l:List Value)(k n:Nat):l.take k++(l.drop k).take n++l.drop (k+n)=l:=by
 rw[b1P,<-b2u,b2f,b2f]
theorem Inv.a8m(h:Inv c G s a w){id i:Nat}{p q:aY}{xs:List (Ty.den (.st p))}{y:p.den}{z:q.den}(bm:s.ah id=some (.aD (.st p) xs))
  (hy:p.ji ((p.cells (xs.getD i (Ty.zero (.st p)))).map YA)=some y) (hz:q.ji ((p.cells (xs.getD i (Ty.zero (.st p)))).map a1q)=some z) (Fc:p.zD.all Ty.TQ=true)
  (a8e:Dj (p.cells (xs.getD i (Ty.zero (.st p))))) {a0:Option Addr} {n cap:Nat} {l:List Value} (gH:G.η id = .tuple (.slice a0 n cap::l).toArray) (hi:i<n) :
  ∃ G' f1 b,a0=some ⟨b,0,none⟩/\cG w b (i * p.size) ((l.drop (i * p.size)).take p.size)/\((l.drop (i * p.size)).take p.size).length=p.size/\Inv c G' (s.cv.eQ id (.st p) (xs.set i y)) a w /\
   Ow w (q.bc z) ((l.drop (i * p.size)).take p.size) f1/\f1.Nodup/\Fr c G' (s.cv.eQ id (.st p) (xs.set i y)).ah w f1:=by
 have hT:=h.aW.tr id _ xs bm;obtain⟨hn,b,f,t,e1,QF,hh,gO⟩:=ED hT gH hi;have hxi:i<xs.length:=by omega
 have K1:l.length=cap * p.size/\xs.length<=cap/\cap<=maxLen/\xs.length<=140737488355328:=by
  obtain⟨v0,l0,a1,Xo,k1,k2,k3,k4,k5,k6⟩:=hT;rw[gH] at k1;simp only[b2r] at k1;have k1:(Value.slice a0 n cap::l)=v0::l0:=congrArg Array.toList k1;simp only[b0T] at k1;obtain⟨k7,rfl⟩:=k1;rw[k2] at k7;simp only[b2w] at k7;obtain⟨_,_,rfl⟩:=k7;rcases k6 with ⟨rfl,_,_⟩|⟨_,_,_,_,_,_,k8,_⟩
  .simp at hxi
  .exact⟨k8,k3,k4,k5⟩
 have dh:∀ d∈xs.map (Ty.bc (.st p)),d.size=p.size:=MC (τ := .st p) xs;obtain⟨f0,f1,f2,hf,m0,m1,m2⟩:=cm.split (xs.map (Ty.bc (.st p))) i (Ty.bc (.st p) (xs.getD i (Ty.zero (.st p)))) gO dh (by simp[List.getD,hxi]);have BJ:((l.drop (i * p.size)).take p.size).length=p.size:=by rw[b1C,b1Y];omega
 have m1:Ow w (.agg ((p.cells (xs.getD i (Ty.zero (.st p)))).map TV.bc)) ((l.drop (i * p.size)).take p.size) f1:=by
  have:=m1;rwa [show Ty.bc (.st p) (xs.getD i (Ty.zero (.st p)))=p.bc (xs.getD i (Ty.zero (.st p))) from rfl,aY.cP] at this
 have hz':Ow w (q.bc z) ((l.drop (i * p.size)).take p.size) f1:=by
  rw[aY.cP,aY.sF hz];exact oG m1 a8e
 have Y1:Ow w (p.bc y) ((l.drop (i * p.size)).take p.size) []:=by
  rw[aY.cP,aY.sF hy];refine Oc m1 λ u hu=>?_;have:u.τ∈p.zD:=by rw[<-aY.vG p (xs.getD i (Ty.zero (.st p)))];exact b0S.2 ⟨u,hu,rfl⟩
  exact b1L.1 Fc _ this
 have hr:=m2 w (p.bc y) _ [] (λ _ _=>rfl) BJ Y1;rw[a3S,b2h] at hr;have dt:=h.aW.nd id _ xs bm;rw[QF,b1G,hf] at dt;obtain⟨OF,dt⟩:=dt;have b0J:=dt;rw[b1k,b1k] at dt;obtain⟨⟨d0,d1,d01⟩,d2,a7f⟩:=dt;have hT':l6 w (G.η id) (.st p) (xs.set i y) (b::(f0++f2)):=by
  refine⟨_,l,a0,cap,gH,by rw[hn,b2k],by rw[b2k];exact K1.2.1,K1.2.2.1,by rw[b2k];exact K1.2.2.2, .inr ⟨b,f0++f2,t,e1,rfl,hh,K1.1,?_⟩⟩;rw[b3M];exact hr
 have wV:∀ k∈b::(f0++f2),k∈G.φ id:=λ k hk=>by
  rw[QF,hf];simp only[b1e,b0Q] at hk ⊢;rcases hk with hk|hk|hk<;>simp[hk]
 have a5e:(b::(f0++f2)).Nodup:=by
  refine b1G.2 ⟨λ hk=>OF ?_,fK d0 d2 λ x hx DY=>a7f x (by simp[hx]) x DY rfl⟩;simp only[b0Q] at hk ⊢;rcases hk with hk|hk<;>simp[hk]
 have hf1:∀ k∈f1,k∈G.φ id/\k∉b::(f0++f2):=λ k hk=>by
  refine⟨by rw[QF,hf];simp[hk],λ hm=>?_⟩;simp only[b1e,b0Q] at hm;rcases hm with rfl|hm|hm
  .exact OF (by simp[hk])
  .exact d01 k hm k hk rfl
  .exact a7f k (by simp[hk]) k hm rfl
 obtain⟨g1,g2,g3⟩:=h.cv;have XL:s.cv.ah id=some (.aD (.st p) xs):=by rw[oW];simp[bm,aG.dM]
 let A:List (Nat×TE):=[(id,(G.η id,b::(f0++f2), .aD (.st p) (xs.set i y)))];have T:=KL.ofList (c:=c) (G:=G) (lk:=s.cv.ah) (w:=w) (w':=w) (A:=A) (λ e he=>by
  simp only[A,b1x] at he;subst he;exact⟨_,xs,_,_,l,l,XL,rfl,gH,gH,hT',a5e⟩) (λ e he k hk=>by
  simp only[A,b1x] at he;subst he;exact .inl ⟨_,b1x.2 rfl,wV k hk⟩) (λ e he e' DT _ _ _=>by
  simp only[A,b1x] at he DT;rw[he,DT]) (by simp[A]) (λ _ _ _=>rfl) rfl rfl rfl (b1E _)
 have hI:=bH.ib g1 T g2 g3;have cY:(s.cv.eQ id (.st p) (xs.set i y)).ah=Tm A s.cv.ah:=by
  funext j;rw[iU,PF]
 refine⟨⟨G.S,Ja A G,Cp A G⟩,f1,b,e1,?_,BJ,?_,hz',d1,?_⟩
 .have:=(cG.of_heap hh).part (i * p.size) p.size;rwa [b2W] at this
 .unfold Inv;rw[cY];exact hI
 .intro k hk;obtain⟨k1,k2⟩:=hf1 k hk;obtain⟨q1,q2,q3,q4⟩:=g1.aW.pl id _ xs k XL k1;refine⟨q1,q2,q3,λ j o hj rU=>?_,λ j τ ys hj rU=>?_⟩
  .have rU:gi (Ja A G j)=some k:=rU;rw[iU] at hj;by_cases xP:j=id
   .subst xP;have:Ja A G j=G.η j:=by simp[Ja,A,ah]
    rw[this,gH] at rU;cases rU
   .rw[b0Y xP] at hj;have:Ja A G j=G.η j:=by
     have gU:Nat.beq id j=false:=by
      cases hb:Nat.beq id j with
      | false=>rfl
      | true=>exact absurd (b0P hb).symm xP
     simp[Ja,A,ah,gU]
    rw[this] at rU;exact q4 j o hj rU
  .have rU:k∈Cp A G j:=rU;rw[iU] at hj;by_cases xP:j=id
   .subst xP;have:Cp A G j=b::(f0++f2):=by simp[Cp,A,ah]
    rw[this] at rU;exact k2 rU
   .rw[b0Y xP] at hj;have:Cp A G j=G.φ j:=by
     have gU:Nat.beq id j=false:=by
      cases hb:Nat.beq id j with
      | false=>rfl
      | true=>exact absurd (b0P hb).symm xP
     simp[Cp,A,ah,gU]
    rw[this] at rU;exact xP (g1.aW.ap j id _ _ _ _ k hj XL rU k1)
theorem a1g(hE:bU c.P c.E)(h:Inv c G s a w){o:Oper}{vc:Vc}{s':ai}(hq:Yv c.E s o=some (vc,s'))(fZ:vc.ok){Q:Exit->Act->World->Prop} :
  o.wp c.P a w (λ a' w'=>∃ G',Inv c G' s' a' w') Q:=by
 unfold Yv at hq;split at hq;case h_2=>cases hq
 case h_1 d hd =>
 split at hq;case h_2=>cases hq
 case h_1 wU =>
 split at hq;case h_4=>cases hq
 case h_1 T len parts bL =>
  split at hq;case h_2=>cases hq
  case h_1 τ p hT =>
  obtain⟨b,e⟩:=p;split at hq;case h_2=>cases hq
  case h_1 hlen =>
  split at hq;case h_2=>cases hq
  case h_1 xs ids pX =>
  split at hq;case h_2=>cases hq
  case h_1 hb vK =>
  simp only[b0L,b0O] at hq;obtain⟨rfl,rfl⟩:=hq;simp only[b0R] at hlen;have hl1:=b0P hlen.1;have hl2:=b1r hlen.2;subst hl1;obtain⟨h1,⟨b',e',h2⟩,i,z,h3,h4,h5,h6,h7⟩:=hE.slice hT;have OO:=τ.size_pos;have ON:τ.size<=100:=Ty.size_le τ;have a9r:parts.size * τ.size<=16777216:=b3a (Nat.mul_le_mul hl2 ON) (by decide);obtain⟨r,fp,h8,h9,h10,h11,h12⟩:=Sz (place:=λ i=>some (i * τ.size,τ.size)) h (λ _=>rfl) (l:=((Array.range (parts.size * τ.size)).map (λ j=>((if parts.size * τ.size=0 then #[] else z.cells:Array Value)[j % (if parts.size * τ.size=0 then #[] else z.cells:Array Value).size]!))).toList) pX (bf.Jz (bI h) _) (dz hb) (by simp);have xQ:=Wj pX;simp only[b1o,b1S] at xQ;rw[xQ] at h10;simp only[b3K,b1V,b1F,b1U] at h8;have c9:(execOp a.eval o).run c.P w = .ok (.value (.slice (some ⟨w.heap.size,0,none⟩) parts.size parts.size)) (w.alloc (.cells r.toArray e)):=by
   have e2:(parts.map λ (i,x)=>(i,a.eval x)).toList=parts.toList.map λ p=>(p.1,a.eval p.2):=by simp
   have lH:¬ (parts.size * τ.size>2 ^ 24):=by omega
   simp only[execOp,bL,Instr.buildSlice,b1u,b1Q h1,b1j,hE.sizeOf h2,b0Y lH,b1w];by_cases h0:parts.size * τ.size=0
   .simp only[h0,b2D,b1u,b1w,b1j,e2] at h8 ⊢;rw[h8];simp[newRow]
   .simp only[h0,b3I,b1u,zeroValue,typeInfo,run_program,b1j,h3,h6,b1w,e2] at h8 ⊢;rw[h8];simp[newRow]
  unfold Oper.wp;rw[c9];show ∃ G',Inv c G' _ (a.put o.dst _) _;rw[hd];have bX:∀ k∈fp,k<w.heap.size:=λ k hk=>Y4 h (h12 k hk);have gO:cm (w.alloc (.cells r.toArray e)) (xs.map τ.bc) r fp:=cm.bd _ h9 λ k hk=>heap_alloc_old w _ k (bX k hk);refine Inv.built h (zs:=xs) (fp:=w.heap.size::fp) (l:=r) ((jY w _).a5D λ _ k=>k.elim) ⟨_,_,some ⟨w.heap.size,0,none⟩,parts.size,rfl,by rw[xQ],by rw[xQ];omega,by simp only[maxLen];omega,by rw[xQ];omega, .inr ⟨w.heap.size,fp,e,rfl,rfl,heap_alloc_new w _,h10,gO⟩⟩ ⟨_,_,_,rfl⟩ (List.nodup_cons.2 ⟨λ hh=>Nat.lt_irrefl _ (bX _ hh),h11⟩) (λ k hk=>?_) vK;rcases List.mem_cons.1 hk with rfl|hk
  .exact .inr ⟨b1E _,by simp⟩
  .exact .inl (h12 k hk)
 case h_2 T ad bL =>
  split at hq;case h_2=>cases hq
  case h_1 q r id i sz hT hx =>
  split at hq;case h_2=>cases hq
  case h_1 p xs bm =>
  split at hq;case h_2=>cases hq
  case h_1 y z hb hy hz =>
  split at hq;case h_2=>cases hq
  case h_1 Kg =>
  simp only[b0L,b0O] at hq;obtain⟨rfl,rfl⟩:=hq;simp only[b0R] at hb Kg;have dh:=b0P hb.1;subst dh;have hp:=bI h ad;rw[hx] at hp;obtain⟨_,b,n,cap,l,gH,hi,hp⟩:=hp;obtain⟨G1,f1,b',e1,xM,hlen,hI,hO,dt,hF⟩:=h.a8m bm hy hz hb.2 fZ gH hi;simp only[b0L,b2J,b1b] at e1;subst e1;have hqs:q.size=p.size:=by
   have e:=Ow.length _ hO;rw[show (q.bc z).size=q.size from Ty.dn (.st q) z] at e;omega
  have c9:(execOp a.eval o).run c.P w = .ok (.value (.agg ((l.drop (i * p.size)).take p.size).toArray)) w:=by
   simp only[execOp,bL,hp,b2I,b1u,qT hE hT xM (by rw[hlen];exact hqs.symm),b1j,b1w];rfl
  unfold Oper.wp;rw[c9];show ∃ G',Inv c G' _ (a.put o.dst _) _;rw[hd];have xN:∀ e∈cw (cn d) (TV.cells ⟨.st q,z⟩),(s.cv.eQ id (.st p) (xs.set i y)).ah e.1=none:=λ e he=>by
   have h0:(s.ah e.1).isNone=true:=b1L.1 Kg.1 e he;have gU:e.1≠id:=λ hh=>by rw[hh,bm] at h0;cases h0
   rw[iU,b0Y gU,oW];show Option.map aG.dM (s.ah e.1)=none;cases hl:s.ah e.1 with
   | none=>rfl
   | some o=>rw[hl] at h0;cases h0
  obtain⟨G2,lk',k1,k2,k3,k4,_⟩:=bH.TD (v:=⟨.st q,z⟩) (id:=cn d) hI ⟨_,rfl,hO⟩ dt hF xN (dz Kg.2) (λ j hj=>by
   cases hr:c.R j with
   | none=>rfl
   | some v=>have:=h.mG j v hr;unfold cn at hj;omega)
  refine⟨G2,?_⟩;have cY:ai.ah { aE:=s.cv.aE.set d (gZ (cn d) ⟨.st q,z⟩),aR:=cw (cn d) (q.cells z)++(s.cv.eQ id (.st p) (xs.set i y)).aR }=lk':=by
   funext j;rw[k1 j];exact tU _ _ j
  unfold Inv;rw[cY,show ai.sl { aE:=s.cv.aE.set d (gZ (cn d) ⟨.st q,z⟩),aR:=cw (cn d) (q.cells z)++(s.cv.eQ id (.st p) (xs.set i y)).aR }=oK s.cv.aE.length s.cv.sl (some d) (gZ (cn d) ⟨.st q,z⟩) from vl s.cv.aE d _ _,
   show ({ aE:=s.cv.aE.set d (gZ (cn d) ⟨.st q,z⟩),aR:=cw (cn d) (q.cells z)++(s.cv.eQ id (.st p) (xs.set i y)).aR }:ai).aE.length=s.cv.aE.length from by simp]
  exact bH.put k2 k4.jS
 case h_3 cl bL =>
  split at hq;case h_3=>cases hq
  case h_2 f kR =>
   split at hq;case h_1=>cases hq
   case h_2 fl _ _ =>
   split at hq;case h_2=>cases hq
   case h_1 own ids ht =>
   split at hq;case h_2=>cases hq
   case h_1 Z9 hb has =>
   split at hq;case h_2=>cases hq
   case h_1 pre res hc =>
   split at hq;case h_2=>cases hq
   case h_1 Kg =>
   simp only[Option.some.injEq,Prod.mk.injEq] at hq;obtain⟨rfl,rfl⟩:=hq;simp only[Bool.and_eq_true,List.all_eq_true] at Kg;have xN:∀ p∈bJ (cn d) res,(ids.foldl ai.gone s).ah p.1=none:=λ p hp=>by simpa using Kg.1 p hp
   have vw:=dz Kg.2;obtain⟨rV,mM⟩:=hE.O4 f Z9 pre res hc fZ;obtain⟨CD,t1,t2,t3,t4⟩:=AO h ht (dz hb) (bf.tg (bI h) _);have h1:Inv c G (ids.foldl ai.gone s) a w:=zI ids h;have hF:∀ b,b∈CD.flatten->yF c G (ids.foldl ai.gone s).ah w b:=λ b hb=>Ol h (t4 b hb);obtain⟨m1,m2⟩:=xS hE h1 has t1 t2 (bf.tg (bI h1) _);generalize hs1:ids.foldl ai.gone s=s1 at *
   unfold Oper.wp;rw[lp bL kR rfl rV];simp only[Oper.upon];refine (mM w (SX G s1.ah) _ CD.flatten ?_ m1 (.inr m2) t3 (λ b hb=>⟨(hF b hb).2.2.1,(hF b hb).a6G⟩)).mono ?_
   .exact h1.a3d
   .rintro e w' ⟨x,fp,rfl,hk,hO,dt,tl⟩;have hI:=Inv.over h1 hF hk;obtain⟨ys,uh,S3⟩:=MW (c:=c) (id:=cn d) hO;have hFr:Fr c G s1.ah w' fp:=λ b hb=>by
     rcases tl b hb with hi|⟨q1,q2⟩
     .obtain⟨f1,f2,f3,f4,f5⟩:=hF b hi;exact⟨f1,f2,b1c f3 hk.size,f4,f5⟩
     .refine⟨.inl (b3a h1.bd.size q1),λ hs=>?_,q2,λ i o' hi uC=>?_,λ j τ zs hj rU=>?_⟩
      .have:=h1.eV b hs;omega
      .have:=(h1.place i o' b hi uC).2.2;omega
      .have:=(h1.aW.pl j τ zs b hj rU).2.2.1;omega
    obtain⟨G',lk',k1,k2,k3,k4,_⟩:=hI.Ny (id:=cn d) uh dt hFr xN vw (λ j hj=>by
     cases hr:c.R j with
     | none=>rfl
     | some v=>have:=h.mG j v hr;unfold cn at hj;omega)
    refine⟨G',?_⟩;have cY:ai.ah { aE:=s1.aE.set d (o8 (cn d) res),aR:=bJ (cn d) res++s1.aR }=lk':=by
     funext i;rw[k1 i];exact tU _ _ i
    unfold Inv;rw[cY,hd,show ai.sl { aE:=s1.aE.set d (o8 (cn d) res),aR:=bJ (cn d) res++s1.aR }=oK s1.aE.length s1.sl (some d) (o8 (cn d) res) from vl s1.aE d _ _,
     show ({ aE:=s1.aE.set d (o8 (cn d) res),aR:=bJ (cn d) res++s1.aR }:ai).aE.length=s1.aE.length from by simp]
    exact bH.put k2 (S3 G' lk' k4)
  case h_1 kR =>
  split at hq;case h_2=>cases hq
  case h_1 T T' YL =>
  split at hq;case h_2=>cases hq
  case h_1 τ b e UW hT =>
  have UW:=b0P UW;subst UW;split at hq;case h_2=>cases hq
  case h_1 x y eU =>
  split at hq;case h_2=>cases hq
  case h_1 xs i ys j hx hy =>
  split at hq;case h_2=>cases hq
  case h_1 hb vK =>
  simp only[b0L,b0O] at hq;obtain⟨rfl,rfl⟩:=hq;obtain⟨v,z,e1,e2,e3⟩:=TF h eU;have hb:=dz hb;rw[b1k] at hb;obtain⟨n1,n2,n3⟩:=hb;obtain⟨fx,o1,o2,o3⟩:=a5T h hx e2;obtain⟨fy,p1,p2,p3⟩:=a5T h hy e3;obtain⟨v',w',fp,l,k1,k2,k3,k4,k5,k6⟩:=Yp (c:=c) (w:=w) hE hT o1 p1 (λ k hk=>Y4 h (o3 k hk)) (λ k hk=>Y4 h (p3 k hk)) o2 p2
   (λ k hk qp=>h.mN (o3 k hk) (p3 k qp) λ x hx y hy=>n3 x hx y hy) fZ o.type
  have OB:cl.argTypes = #[T,T]:=by rw[<-b1U (xs:=cl.argTypes),YL]
  have Ii:cl.args.map a.eval = #[v,z]:=by rw[<-b1U (xs:=cl.args.map a.eval),b2K,e1]
  have U3:(execOp a.eval o)=(do let d <-resolve a.eval cl o.type;invoke d.target d.args):=by simp[execOp,bL]
  have Sf:(execOp a.eval o).run c.P w=((Builtin.append_ #[T,T] o.type #[v,z]).run c.P w).andThen λ v w => .ok (.value v) w:=by
   rw[U3];simp[resolve,kR,invoke,builtin,OB,Ii]
  unfold Oper.wp;rw[Sf,k1];show ∃ G',Inv c G' _ (a.put o.dst _) _;rw[hd];refine Inv.built h (zs:=xs++ys) (fp:=fp) (l:=l) (k6.a5D λ k hk=>(o3 k hk).mono λ i hi=>by simp[hi]) k2 k3 k4 (λ k hk=>?_) vK;rcases k5 k hk with hk|hk|hk
  .exact .inl ((o3 k hk).mono λ i hi=>by simp[hi])
  .exact .inl ((p3 k hk).mono λ i hi=>by simp[hi])
  .exact .inr hk
end
def a8u:Value->Nat
 | .pointer (some a)=>a.block
 | _=>0
def rk(G:Gh)(m:List (Nat×Nat))(k:Nat):Nat:=match ah m k with
 | some id=>a8u (G.η id)
 | none=>0
def qa(m m':List (Nat×Nat)):Prop:=∀ k id,ah m k=some id->ah m' k=some id
theorem qa.refl(m:List (Nat×Nat)):qa m m:=λ _ _ h=>h
theorem qa.trans{a b c:List (Nat×Nat)}(h:qa a b)(k:qa b c):qa a c:=λ i id q=>k i id (h i id q)
theorem tV{α:Type}(k:Nat)(o:α)(l:List (Nat×α))(j:Nat):ah ((k,o)::l) j=if j=k then some o else ah l j:=by
 have e:ah ((k,o)::l) j=match Nat.beq k j with
  | true=>some o
  | false=>ah l j:=rfl
 rw[e];cases hb:Nat.beq k j with
 | true=>rw[b1q (b0P hb).symm]
 | false=>rw[b0Y (λ e=>by subst e;rw[Nat.beq_refl] at hb;cases hb)]
theorem UE{m:List (Nat×Nat)}{k id:Nat}(h:ah m k=none):qa m ((k,id)::m):=λ i j q=>by
 rw[tV];by_cases hi:i=k
 .subst hi;rw[h] at q;cases q
 .rw[b0Y hi];exact q
theorem Vv{m:List (Nat×Nat)}{k id:Nat}:ah ((k,id)::m) k=some id:=by rw[tV,b1q rfl]
section
variable {c:Ctx} {G:Gh} {s:ai} {a:Act} {w w':World}
theorem a4v{lk:Nat->Option aG}{τ:Ty}{v:AV}{x:Value}{y:τ.den}(h:oD (λ _=>none) τ v=some y)(hv:C1 c G lk w v x):Rd w G.S (τ.bc y) [x]:=TG h hv
theorem th{sl:Nat->AV}{n:Nat}{lk:Nat->Option aG}(h:bH c G sl n lk a w):∀ {ks:List CK} {cs:List AV} {m m':List (Nat×Nat)} {ds:List TV} {ids:List Nat} {l:List Value},dJ lk ks cs m=some (ds,ids,m')->ids.Nodup->bf (C1 c G lk w) cs l ->
  qa m m'/\∃ fp,(∀ mf,qa m' mf->p9 w G.S (rk G mf) ks ds l fp)/\fp.Nodup/\∀ b∈fp,yG G lk ids b
 | [],[],m,m',ds,ids,l,ht,_,hv=>by
  simp only[dJ,b0L,b0O] at ht;obtain⟨rfl,rfl,rfl⟩:=ht;match l,hv with
  | [],_=>exact⟨qa.refl _,[],λ _ _=>rfl,b2c,by simp⟩
 | .d τ::ks,v::cs,m,m',ds,ids,l,ht,hn,hv=>by
  simp only[dJ] at ht;split at ht;case h_2=>cases ht
  case h_1 y hy yp =>
  split at ht;case h_2=>cases ht
  case h_1 ds1 a0j m1 hr =>
  simp only[b0L,b0O] at ht;obtain⟨rfl,rfl,rfl⟩:=ht;match l,hv with
  | x::l,hv =>
   obtain⟨e1,fp,e2,e3,e4⟩:=th h hr hn hv.2;exact⟨e1,fp,λ mf hm=>⟨⟨rfl,yp,a4v hy hv.1⟩,e2 mf hm⟩,e3,e4⟩
 | .o τ::ks,v::cs,m,m',ds,ids,l,ht,hn,hv=>by
  simp only[dJ] at ht;split at ht;case h_2=>cases ht
  case h_1 y i hy yp =>
  split at ht;case h_2=>cases ht
  case h_1 ds1 a0j m1 hr =>
  simp only[b0L,b0O] at ht;obtain⟨rfl,rfl,rfl⟩:=ht;rw[b1k] at hn;obtain⟨n1,n2,n3⟩:=hn;match l,hv with
  | x::l,hv =>
   obtain⟨e1,fp,e2,e3,e4⟩:=th h hr n2 hv.2;obtain⟨f1,o1,o2,o3⟩:=Co h hy hv.1;refine⟨e1,f1++fp,λ mf hm=>⟨f1,fp,rfl,⟨rfl,yp,o1⟩,e2 mf hm⟩,fK o2 e3 λ b hb cO=>h.mN (o3 b hb) (e4 b cO) λ x hx y hy=>n3 x hx y hy,λ b hb=>?_⟩;rcases b0Q.1 hb with hb|hb
   .exact (o3 b hb).mono λ k hk=>by simp[hk]
   .exact (e4 b hb).mono λ k hk=>by simp[hk]
 | .p j::ks,v::cs,m,m',ds,ids,l,ht,hn,hv=>by
  simp only[dJ] at ht;split at ht;case h_2=>cases ht
  case h_1 id =>
  match l,hv with
  | x::l,hv =>
   have key:∀ m1,dJ lk ks cs m1=some (ds,ids,m')->qa m m1->ah m1 j=some id->qa m m'/\∃ fp,(∀ mf,qa m' mf->p9 w G.S (rk G mf) (.p j::ks) ds (x::l) fp)/\fp.Nodup/\∀ b∈fp,yG G lk ids b:=λ m1 hr hx hj=>by
    obtain⟨e1,fp,e2,e3,e4⟩:=th h hr hn hv.2;refine⟨hx.trans e1,fp,λ mf hm=>?_,e3,e4⟩;have hv1:C1 c G lk w (.ptr id 0) x:=hv.1;obtain⟨b,h1,h2,_⟩:=hv1;have:rk G mf j=b:=by
     simp only[rk,hm j id (e1 j id hj),h1];rfl
    cases ds with
    | nil=>exact⟨by rw[this];exact h2,e2 mf hm⟩
    | cons d ds=>exact⟨by rw[this];exact h2,e2 mf hm⟩
   split at ht
   .rename_i i hi;split at ht
    .rename_i hb;have hb:=b0P hb;subst hb;exact key m ht (qa.refl _) hi
    .cases ht
   .rename_i lH;exact key _ ht (UE lH) Vv
 | [],_::_,_,_,_,_,_,ht,_,_=>by simp[dJ] at ht
 | .d _::_,[],_,_,_,_,_,ht,_,_=>by simp[dJ] at ht
 | .o _::_,[],_,_,_,_,_,ht,_,_=>by simp[dJ] at ht
 | .p _::_,[],_,_,_,_,_,ht,_,_=>by simp[dJ] at ht
def a7I(lk:Nat->Option aG)(m:List (Nat×Nat))(k0 n:Nat):Prop:=∀ k,k0<=k->k<k0+n->∃ id cs,ah m k=some id/\lk id=some (.box cs)
theorem yd{sl:Nat->AV}{n:Nat}{lk:Nat->Option aG}(h:bH c G sl n lk a w):∀ {sh:List (List CK)} {k:Nat} {m m':List (Nat×Nat)} {cr:List (List TV)} {ids:List Nat},mQ lk sh k m=some (cr,ids,m')->ids.Nodup ->
  qa m m'/\a7I lk m' k sh.length/\∃ fp,(∀ mf,qa m' mf->mR w G.S (rk G mf) k sh cr fp)/\fp.Nodup/\∀ b∈fp,yG G lk ids b
 | [],k,m,m',cr,ids,ht,_=>by
  simp only[mQ,b0L,b0O] at ht;obtain⟨rfl,rfl,rfl⟩:=ht;exact⟨qa.refl _,λ j h1 h2=>by simp at h2;omega,[],λ _ _=>rfl,b2c,by simp⟩
 | ks::sh,k,m,m',cr,ids,ht,hn=>by
  simp only[mQ] at ht;split at ht;case h_2=>cases ht
  case h_1 id bm =>
  split at ht;case h_2=>cases ht
  case h_1 cs oR =>
  split at ht;case h_2=>cases ht
  case h_1 ds i m1 hr =>
  split at ht;case h_2=>cases ht
  case h_1 a9f a0j m2 hr2 =>
  simp only[b0L,b0O] at ht;obtain⟨rfl,rfl,rfl⟩:=ht;rw[b1k] at hn;obtain⟨n1,n2,n3⟩:=hn;obtain⟨b,l,t,q1,q2,q3⟩:=h.aR id _ oR;obtain⟨e1,f1,e2,e3,e4⟩:=th h hr n1 q3;obtain⟨g1,g0,f2,g2,g3,g4⟩:=yd h hr2 n2;refine⟨e1.trans g1,λ j h1 h2=>?_,f1++f2,λ mf hm=>⟨l,t,f1,f2,rfl,?_,e2 mf (g1.trans hm),g2 mf hm⟩,fK e3 g3 λ b hb cO=>h.mN (e4 b hb) (g4 b cO) λ x hx y hy=>n3 x hx y hy,λ b hb=>?_⟩
  .by_cases hj:j=k
   .subst hj;exact⟨id,cs,(e1.trans g1) j id bm,oR⟩
   .exact g0 j (by omega) (by simp at h2;omega)
  .have:rk G mf k=b:=by
    simp only[rk,hm k id ((e1.trans g1) k id bm),q1];rfl
   rw[this];exact q2
  .rcases b0Q.1 hb with hb|hb
   .exact (e4 b hb).mono λ k hk=>by simp[hk]
   .exact (g4 b hb).mono λ k hk=>by simp[hk]
theorem zw:∀ {fl:List (Option Nat)} {vs:List AV} {m m':List (Nat×Nat)},mX fl vs m=some m'->qa m m'/\∀ (i k:Nat),fl[i]?=some (some k)->∃ id,vs[i]?=some (AV.ptr id 0)/\ah m' k=some id
 | [],[],m,m',h=>by
  simp only[mX,b0L] at h;subst h;exact⟨qa.refl _,λ i k q=>by simp at q⟩
 | none::fl,v::vs,m,m',h=>by
  obtain⟨h1,h2⟩:=zw (fl:=fl) (vs:=vs) h;refine⟨h1,λ i k q=>?_⟩;cases i with
  | zero=>simp at q
  | succ i=>exact h2 i k (by simpa using q)
 | some k::fl,v::vs,m,m',h=>by
  simp only[mX] at h;split at h;case h_2=>cases h
  case h_1 id =>
  have key:∀ m1,qa m m1->ah m1 k=some id->mX fl vs m1=some m'->qa m m'/\∀ (i k':Nat),(some k::fl)[i]?=some (some k')->∃ er,(AV.ptr id 0::vs)[i]?=some (AV.ptr er 0)/\ah m' k'=some er:=λ m1 e1 e2 e3=>by
   obtain⟨h1,h2⟩:=zw e3;refine⟨e1.trans h1,λ i k' q=>?_⟩;cases i with
   | zero =>
    simp only[b4o,b0L] at q;subst q;exact⟨id,rfl,h1 k id e2⟩
   | succ i=>exact h2 i k' (by simpa using q)
  split at h
  .rename_i i hi;split at h
   .rename_i hb;have hb:=b0P hb;subst hb;exact key m (qa.refl _) hi h
   .cases h
  .rename_i lH;exact key _ (UE lH) Vv h
 | [],_::_,_,_,h=>by simp[mX] at h
 | some _::_,[],_,_,h=>by simp[mX] at h
 | none::_,[],_,_,h=>by simp[mX] at h
theorem ud{lk:Nat->Option aG}{ids:List Nat}{id:Nat}{o:aG}(h:C0 lk ids id=some o):lk id=some o/\id∉ids/\∃ cs,o = .box cs:=by
 unfold C0 at h;split at h
 .cases h
 .rename_i hc;split at h
  .rename_i cs oR;simp only[Option.some.injEq] at h;subst h;exact⟨oR,by simpa using hc,cs,rfl⟩
  .cases h
theorem a3O(h1:Inv c G s a w){ids:List Nat}{X:Nat->Prop}(UX:∀ b,X b->¬ St c G.S b)(H9:∀ id cs b,C0 s.ah ids id=some (.box cs)->gi (G.η id)=some b->¬ X b)
  {τ:Ty} {v:AV} {x:Value} {y:τ.den} (hy:deref (C0 s.ah ids) τ v=some y) (hx:VR c G s.ah w v x) (B:Nat->Nat):Zz w G.S X B (.ref ⟨τ,y⟩) x:=by
 have hd:=HS (S:=G.S) h1 (lk':=C0 s.ah ids) (λ id o ho=>(ud ho).1) (λ τ v x y h hv=>Dk (λ id e τ xs q=>by obtain⟨_,_,cs,e⟩:=ud q;cases e) (λ id τ xs q=>by obtain⟨_,_,cs,e⟩:=ud q;cases e) h hv) hy hx;obtain⟨b,o,cs,k1,k2,k3,k4⟩:=hd;refine⟨b,o,cs,k1,k2,?_,k3,k4⟩;unfold deref at hy;split at hy;case h_2=>cases hy
 case h_1 u hu =>
 cases v with
 | dH z =>
  obtain⟨b',o',eJ,q1,q2,_⟩:=hx;rw[k1] at q1;simp only[b3w,b0L,b2J] at q1;obtain⟨rfl,_⟩:=q1;exact λ hb=>UX _ hb q2
 | ptr id off =>
  obtain⟨b',q1,q2,_⟩:=hx;rw[k1] at q2;simp only[b3w,b0L,b2J] at q2;obtain⟨rfl,_⟩:=q2;simp only[wB] at hu;split at hu
  .rename_i Yx oR;exact H9 id Yx _ oR (by rw[q1];rfl)
  .cases hu
 | gp id i off =>
  simp only[wB] at hu;split at hu
  .rename_i hr;obtain⟨_,_,cs,e⟩:=ud hr;cases e
  .cases hu
 | _=>simp[wB] at hu
theorem I6(hE:bU c.P c.E)(h1:Inv c G s a w){ids:List Nat}{mf:List (Nat×Nat)}{X:Nat->Prop}(UX:∀ b,X b->¬ St c G.S b)(H9:∀ id cs b,C0 s.ah ids id=some (.box cs)->gi (G.η id)=some b->¬ X b){lk0:Nat->Option aG} :
  ∀ {fl:List (Option Nat)} {Ts:List TypeId} {vs Zx:List AV} {xs:List Value} {Z9:List Arg},wq c.E (C0 s.ah ids) fl Ts vs=some Z9->bf (VR c G s.ah w) vs xs->bf (VR c G lk0 w) Zx xs ->
   (∀ (i k:Nat),fl[i]?=some (some k)->∃ id,Zx[i]?=some (AV.ptr id 0)/\ah mf k=some id)->bf (Zz w G.S X (rk G mf)) Z9 xs
 | [],[],[],Zx,xs,Z9,h,hv,_,_=>by
  simp only[wq,b0L] at h;subst h;match xs,hv with
  | [],_=>trivial
 | some k::fl,T::Ts,v::vs,Zx,xs,Z9,h,hv,OQ,hb=>by
  simp only[wq] at h;split at h;case h_2=>cases h
  case h_1 r hr =>
  simp only[b0L] at h;subst h;match xs,Zx,hv,OQ with
  | x::xs,v0::Zx,hv,OQ =>
   obtain⟨id,q1,q2⟩:=hb 0 k rfl;simp only[List.getElem?_cons_zero,Option.some.injEq] at q1;subst q1;have hp:VR c G lk0 w (.ptr id 0) x:=OQ.1;obtain⟨b,k1,k2,_⟩:=hp;refine⟨?_,I6 hE h1 UX H9 hr hv.2 OQ.2 λ i k' q=>by simpa using hb (i+1) k' (by simpa using q)⟩;show x = .pointer (some ⟨rk G mf k,0,none⟩);simp only[rk,q2,k1];exact k2
  | x::xs,[],_,OQ=>exact OQ.elim
 | none::fl,T::Ts,v::vs,Zx,xs,Z9,h,hv,OQ,hb=>by
  simp only[wq] at h;split at h;case h_2=>cases h
  case h_1 z hz =>
  split at h;case h_2=>cases h
  case h_1 r SW hr =>
  simp only[b0L] at h;subst h;match xs,Zx,hv,OQ with
  | x::xs,v0::Zx,hv,OQ =>
   refine⟨?_,I6 hE h1 UX H9 hr hv.2 OQ.2 λ i k' q=>by simpa using hb (i+1) k' (by simpa using q)⟩;have a9I:∀ id e τ xs,C0 s.ah ids id≠some (.row e τ xs):=λ id e τ xs q=>by obtain⟨_,_,cs,e⟩:=ud q;cases e
   have a9J:∀ id τ xs,C0 s.ah ids id≠some (.aD τ xs):=λ id τ xs q=>by obtain⟨_,_,cs,e⟩:=ud q;cases e
   unfold Ug at hz;split at hz
   .rename_i τ q hT;split at hz
    .rename_i y hy;simp only[b0L] at hz;subst hz;exact Dk a9I a9J hy hv.1
    .cases hz
   .split at hz
    .rename_i τ hT;split at hz
     .rename_i y hy;simp only[b0L] at hz;subst hz;exact a3O h1 UX H9 hy hv.1 _
     .cases hz
    .split at hz
     .simp only[b0L] at hz;subst hz;cases SW
     .split at hz
      .rename_i f;simp only[b0L] at hz;subst hz;exact hv.1
      .cases hz
  | x::xs,[],_,OQ=>exact OQ.elim
 | [],_::_,_,_,_,_,h,_,_,_=>by simp[wq] at h
 | [],[],_::_,_,_,_,h,_,_,_=>by simp[wq] at h
 | some _::_,[],_,_,_,_,h,_,_,_=>by simp[wq] at h
 | none::_,[],_,_,_,_,h,_,_,_=>by simp[wq] at h
 | some _::_,_::_,[],_,_,_,h,_,_,_=>by simp[wq] at h
 | none::_,_::_,[],_,_,_,h,_,_,_=>by simp[wq] at h
def eP:List CK->List TV->List TV
 | .d _::ks,_::ds=>eP ks ds
 | .o _::ks,v::ds=>v::eP ks ds
 | .p _::ks,ds=>eP ks ds
 | _,_=>[]
def p7:List CK->List Value->List Value
 | .o _::ks,x::xs=>x::p7 ks xs
 | _::ks,_::xs=>p7 ks xs
 | _,_=>[]
theorem p9.yD{S:Nat->Prop}{B:Nat->Nat}:∀ {ks:List CK} {ds:List TV} {l:List Value} {fp:List Nat},p9 w S B ks ds l fp->dE w ((eP ks ds).map TV.bc) (p7 ks l) fp/\(∀ u∈eP ks ds,u.τ.agg=false)/\(eP ks ds).length=(p7 ks l).length
 | [],[],[],fp,h=>⟨⟨rfl,h⟩,by simp[eP],rfl⟩
 | .d τ::ks,v::ds,x::xs,fp,h=>by
  obtain⟨_,h2⟩:=h;obtain⟨k1,k2,k3⟩:=p9.yD h2;exact⟨k1,k2,k3⟩
 | .o τ::ks,v::ds,x::xs,fp,h=>by
  obtain⟨f1,f2,rfl,⟨e,h1,h2⟩,h3⟩:=h;obtain⟨k1,k2,k3⟩:=p9.yD h3;refine⟨⟨x,p7 ks xs,f1,f2,rfl,rfl,h2,k1⟩,λ u hu=>?_,by simp[eP,p7,k3]⟩;rcases b1e.1 hu with rfl|hu
  .rw[e];exact h1
  .exact k2 u hu
 | .p j::ks,ds,x::xs,fp,h=>by
  have h:x = .pointer (some ⟨B j,0,none⟩)/\p9 w S B ks ds xs fp:=by cases ds<;>exact h
  obtain⟨k1,k2,k3⟩:=p9.yD h.2;refine⟨?_,?_,?_⟩<;>cases ds<;>first|exact k1|exact k2|exact k3
 | [],_::_,_,_,h=>h.elim
 | [],[],_::_,_,h=>h.elim
 | .d _::_,[],_,_,h=>by cases h
 | .o _::_,[],_,_,h=>by cases h
 | .d _::_,_::_,[],_,h=>by cases h
 | .o _::_,_::_,[],_,h=>by cases h
 | .p _::_,ds,[],_,h=>by cases ds<;>cases h
theorem GH:∀ (n:Nat) (a b:List TV),cw n (a++b)=cw n a++cw (n+a.length) b
 | n,[],b=>by simp[cw]
 | n,u::a,b=>by
  have:=GH (n+1) a b;simp only[b1Z,cw,this,b1P,b0Z];rw[show n+1+a.length=n+(a.length+1) by omega]
theorem wk:∀ (n:Nat) (a b:List TV),cz n (a++b)=cz n a++cz (n+a.length) b
 | n,[],b=>by simp[cz]
 | n,u::a,b=>by
  have:=wk (n+1) a b;simp only[b1Z,cz,this,b0Z];rw[show n+1+a.length=n+(a.length+1) by omega]
theorem dE.append:∀ {a b:List D} {x y:List Value} {f g:List Nat},dE w a x f->dE w b y g->dE w (a++b) (x++y) (f++g)
 | [],b,x,y,f,g,h,k=>by
  obtain⟨rfl,rfl⟩:=h;exact k
 | d::a,b,x,y,f,g,h,k=>by
  obtain⟨v,r,f1,f2,rfl,rfl,h3,h4⟩:=h;exact⟨v,r++y,f1,f2++g,rfl,by simp,h3,h4.append k⟩
theorem vh{m:List (Nat×Nat)}{S:Nat->Prop}{B:Nat->Nat}{G':Gh}{lk':Nat->Option aG}(hS:∀ b,S b->G'.S b)(hB:∀ j id,ah m j=some id->G'.η id = .pointer (some ⟨B j,0,none⟩)/\jG (lk' id)=true) :
  ∀ {ks:List CK} {cs:List AV} {ds:List TV} {n n':Nat} {r:List AV} {os:List (Nat×aG)} {l:List Value} {fp:List Nat},cE m ks cs ds n=some (r,os,n')->p9 w S B ks ds l fp->bf (C1 c G' lk' w) (cz n (eP ks ds)) (p7 ks l) ->
   bf (C1 c G' lk' w) r l
 | [],[],[],n,n',r,os,l,fp,h,hb,hc=>by
  simp only[cE,b0L,b0O] at h;obtain⟨rfl,rfl,rfl⟩:=h;match l,hb with
  | [],_=>trivial
 | .d τ::ks,c0::cs,v::ds,n,n',r,os,l,fp,h,hb,hc=>by
  simp only[cE] at h;split at h;case h_2=>cases h
  case h_1 hv =>
  split at h;case h_2=>cases h
  case h_1 r1 os1 n1 hr =>
  simp only[b0L,b0O] at h;obtain⟨rfl,rfl,rfl⟩:=h;match l,hb with
  | x::l,hb =>
   obtain⟨⟨e,h1,h2⟩,h3⟩:=hb;exact⟨⟨by rw[e];exact h1,Rd.bd hS (λ _ _=>rfl) _ h2⟩,vh hS hB hr h3 hc⟩
 | .o τ::ks,c0::cs,v::ds,n,n',r,os,l,fp,h,hb,hc=>by
  simp only[cE] at h;split at h;case h_2=>cases h
  case h_1 hv =>
  split at h;case h_2=>cases h
  case h_1 r1 os1 n1 hr =>
  simp only[b0L,b0O] at h;obtain⟨rfl,rfl,rfl⟩:=h;match l,hb with
  | x::l,hb =>
   obtain⟨f1,f2,rfl,⟨e,h1,h2⟩,h3⟩:=hb;exact⟨hc.1,vh hS hB hr h3 hc.2⟩
 | .p j::ks,c0::cs,ds,n,n',r,os,l,fp,h,hb,hc=>by
  simp only[cE] at h;split at h;case h_2=>cases h
  case h_1 id =>
  split at h;case h_2=>cases h
  case h_1 i hi =>
  split at h;case h_2=>cases h
  case h_1 r1 os1 n1 hbe hr =>
  have hbe:=b0P hbe;subst hbe;simp only[b0L,b0O] at h;obtain⟨rfl,rfl,rfl⟩:=h;match l,hb with
  | x::l,hb =>
   have hb:x = .pointer (some ⟨B j,0,none⟩)/\p9 w S B ks ds l fp:=by cases ds<;>exact hb
   have hc:bf (C1 c G' lk' w) (cz n (eP ks ds)) (p7 ks l):=by cases ds<;>exact hc
   obtain⟨q1,q2⟩:=hB j i hi;exact⟨⟨B j,q1,hb.1,q2⟩,vh hS hB hr hb.2 hc⟩
  | [],hb=>cases ds<;>cases hb
 | [],_::_,_,_,_,_,_,_,_,h,_,_=>by simp[cE] at h
 | [],[],_::_,_,_,_,_,_,_,h,_,_=>by simp[cE] at h
 | .d _::_,[],_,_,_,_,_,_,_,h,_,_=>by simp[cE] at h
 | .o _::_,[],_,_,_,_,_,_,_,h,_,_=>by simp[cE] at h
 | .p _::_,[],ds,_,_,_,_,_,_,h,_,_=>by cases ds<;>simp[cE] at h
 | .d _::_,_::_,[],_,_,_,_,_,_,h,_,_=>by simp[cE] at h
 | .o _::_,_::_,[],_,_,_,_,_,_,h,_,_=>by simp[cE] at h
theorem yV{m:List (Nat×Nat)}:∀ {ks:List CK} {cs:List AV} {ds:List TV} {n n':Nat} {r:List AV} {os:List (Nat×aG)},cE m ks cs ds n=some (r,os,n')->os=cw n (eP ks ds)/\n'=n+(eP ks ds).length
 | [],[],[],n,n',r,os,h=>by
  simp only[cE,b0L,b0O] at h;obtain⟨rfl,rfl,rfl⟩:=h;exact⟨rfl,rfl⟩
 | .d τ::ks,c0::cs,v::ds,n,n',r,os,h=>by
  simp only[cE] at h;split at h;case h_2=>cases h
  case h_1 hv =>
  split at h;case h_2=>cases h
  case h_1 r1 os1 n1 hr =>
  simp only[b0L,b0O] at h;obtain⟨rfl,rfl,rfl⟩:=h;obtain⟨e1,e2⟩:=yV hr;exact⟨e1,e2⟩
 | .o τ::ks,c0::cs,v::ds,n,n',r,os,h=>by
  simp only[cE] at h;split at h;case h_2=>cases h
  case h_1 hv =>
  split at h;case h_2=>cases h
  case h_1 r1 os1 n1 hr =>
  simp only[b0L,b0O] at h;obtain⟨rfl,rfl,rfl⟩:=h;obtain⟨e1,e2⟩:=yV hr;exact⟨by rw[e1];rfl,by rw[e2];simp[eP];omega⟩
 | .p j::ks,c0::cs,ds,n,n',r,os,h=>by
  simp only[cE] at h;split at h;case h_2=>cases h
  case h_1 id =>
  split at h;case h_2=>cases h
  case h_1 i hi =>
  split at h;case h_2=>cases h
  case h_1 r1 os1 n1 hbe hr =>
  simp only[b0L,b0O] at h;obtain⟨rfl,rfl,rfl⟩:=h;obtain⟨e1,e2⟩:=yV hr;cases ds<;>exact⟨e1,e2⟩
 | [],_::_,_,_,_,_,_,h=>by simp[cE] at h
 | [],[],_::_,_,_,_,_,h=>by simp[cE] at h
 | .d _::_,[],_,_,_,_,_,h=>by simp[cE] at h
 | .o _::_,[],_,_,_,_,_,h=>by simp[cE] at h
 | .p _::_,[],ds,_,_,_,_,h=>by cases ds<;>simp[cE] at h
 | .d _::_,_::_,[],_,_,_,_,h=>by simp[cE] at h
 | .o _::_,_::_,[],_,_,_,_,h=>by simp[cE] at h
theorem Inv.a6h{s1:ai}(h1:Inv c G s1 a w){S' X:Nat->Prop}{IA:Nat->Option aG}(hk:bV X w w')(hX:∀ b,X b->c.w0.heap.size<=b\/c.X b)(hXS:∀ b,X b->¬ G.S b)
  (hS:∀ b,G.S b->S' b) (Z7:∀ b,S' b->b<w'.heap.size) (a1t:∀ b,b<w.heap.size->¬ X b->(S' b↔G.S b))
  (qh:∀ id,(IA id=s1.ah id/\∀ o b,s1.ah id=some o->gi (G.η id)=some b->¬ X b) \/
   ∃ cs eJ,s1.ah id=some (.box cs)/\IA id=some (.box eJ)/\(∀ b,gi (G.η id)=some b->¬ S' b)/\∃ b l t,G.η id = .pointer (some ⟨b,0,none⟩)/\w'.heap[b]?=some (.cells l.toArray t (0,0))/\∀ (G:Gh) (lk:Nat->Option aG),bf (C1 c G lk w') eJ l)
  (GY:∀ id τ xs b,s1.ah id=some (.aD τ xs)->b∈G.φ id->¬ X b):bH c ⟨S',G.η,G.φ⟩ s1.sl s1.aE.length IA a w':=by
 have gV:∀ id,gw (s1.ah id) (IA id):=λ id=>by
  rcases qh id with ⟨e,_⟩|⟨cs,eJ,e1,e2,_⟩
  .rw[e];exact gw.refl _
  .rw[e1,e2];exact⟨λ _=>rfl,(λ e τ xs q=>by cases q),(λ q=>by cases q),λ q=>by cases q⟩
 have cI:∀ b,St c G.S b->w'.heap[b]?=w.heap[b]?:=λ b hb=>by
  rcases hb with hb|hb
  .exact hk.block b (h1.eV b hb) λ q=>hXS b q hb
  .exact hk.block b (b1c hb.1 h1.bd.size) λ q=>(hX b q).elim (λ q=>by omega) hb.2.1
 have hold:∀ id o,IA id=some o->∃ o',s1.ah id=some o'/\(∀ τ xs,o = .aD τ xs->o' = .aD τ xs):=λ id o ho=>by
  rcases qh id with ⟨e,_⟩|⟨cs,eJ,e1,e2,_⟩
  .exact⟨o,by rw[<-e];exact ho,λ τ xs q=>q⟩
  .rw[e2] at ho;simp only[b0L] at ho;exact⟨_,e1,λ τ xs q=>by rw[q] at ho;cases ho⟩
 have GX:∀ id τ xs,IA id=some (.aD τ xs)->s1.ah id=some (.aD τ xs):=λ id τ xs ht=>by
  obtain⟨o',q1,q2⟩:=hold id _ ht;rw[q1,q2 τ xs rfl]
 exact {
  defers:=h1.defers,size:=h1.size
  bd:=h1.bd.trans hk λ i hi hy=>(hX i hy).elim (λ q=>by omega) id
  oB:=h1.oB
  gh:=λ b hb hx=>(a1t b (b1c hb h1.bd.size) λ q=>(hX b q).elim (λ q=>by omega) hx).trans (h1.gh b hb hx)
  sX:=λ b hb=>hS b (h1.sX b hb)
  eV:=Z7
  aE:=λ i=>(h1.aE i).mono (λ id _=>⟨gV id,rfl⟩) hS cI
  aR:=λ id o ho=>by
   rcases qh id with ⟨e,e'⟩|⟨cs,eJ,e1,e2,_,b,l,t,e3,e4,e5⟩
   .rw[e] at ho;exact (h1.aR id o ho).mono rfl (λ b hb=>hk.block b (h1.place id o b ho hb).2.2 (e' o b ho hb)) (λ j _=>⟨gV j,rfl⟩) hS cI
   .rw[e2] at ho;simp only[b0L] at ho;subst ho;exact⟨b,l,t,e3,e4,e5 _ _⟩
  place:=λ id o b ho hb=>by
   obtain⟨o',q1,_⟩:=hold id o ho;obtain⟨p1,p2,p3⟩:=h1.place id o' b q1 hb;refine⟨p1,?_,b1c p3 hk.size⟩;rcases qh id with ⟨e,e'⟩|⟨cs,eJ,e1,e2,e3,_⟩
   .exact λ q=>p2 ((a1t b p3 (e' o' b q1 hb)).1 q)
   .exact e3 b hb
  apart:=λ id er o o' b ho dj hb cO=>by
   obtain⟨p,q1,_⟩:=hold id o ho;obtain⟨p',q2,_⟩:=hold er o' dj;exact h1.apart id er p p' b q1 q2 hb cO
  aW:={
   tr:=λ id τ xs ht=>(h1.aW.tr id τ xs (GX id τ xs ht)).bd λ b hb=>hk.block b (h1.aW.pl id τ xs b (GX id τ xs ht) hb).2.2.1 (GY id τ xs b (GX id τ xs ht) hb)
   nd:=λ id τ xs ht=>h1.aW.nd id τ xs (GX id τ xs ht)
   pl:=λ id τ xs b ht hb=>by
    obtain⟨p1,p2,p3,p4⟩:=h1.aW.pl id τ xs b (GX id τ xs ht) hb;refine⟨p1,λ q=>p2 ((a1t b p3 (GY id τ xs b (GX id τ xs ht) hb)).1 q),b1c p3 hk.size,λ i o ho=>?_⟩;obtain⟨o',q1,_⟩:=hold i o ho;exact p4 i o' q1
   ap:=λ id er τ bw xs dw b ht S2=>h1.aW.ap id er τ bw xs dw b (GX id τ xs ht) (GX er bw dw S2) }
  root:=λ id v hr ht=>h1.root id v hr (by
   match hl:IA id,ht with
   | some (.aD τ xs),_=>rw[GX id τ xs hl];rfl)
  mG:=h1.mG
  ep:=λ id v hr ht=>h1.ep id v hr (by
   rcases qh id with ⟨e,_⟩|⟨cs,eJ,e1,e2,_⟩
   .rw[<-e];exact ht
   .rw[e1];rfl)
  hH:=h1.hH }
theorem bH.a9V{sl:Nat->AV}{n:Nat}{lk lk2:Nat->Option aG}(h:bH c G sl n lk a w)(qh:∀ id,lk2 id=lk id\/∃ cs eJ,lk id=some (.box cs)/\lk2 id=some (.box eJ)/\∃ b l t,G.η id = .pointer (some ⟨b,0,none⟩)/\w.heap[b]?=some (.cells l.toArray t (0,0))/\bf (C1 c G lk2 w) eJ l) :
  bH c G sl n lk2 a w:=by
 have gV:∀ id,gw (lk id) (lk2 id):=λ id=>by
  rcases qh id with e|⟨cs,eJ,e1,e2,_⟩
  .rw[e];exact gw.refl _
  .rw[e1,e2];exact⟨λ _=>rfl,(λ e τ xs q=>by cases q),(λ q=>by cases q),λ q=>by cases q⟩
 have hold:∀ id o,lk2 id=some o->∃ o',lk id=some o'/\(∀ τ xs,o = .aD τ xs->o' = .aD τ xs):=λ id o ho=>by
  rcases qh id with e|⟨cs,eJ,e1,e2,_⟩
  .exact⟨o,by rw[<-e];exact ho,λ τ xs q=>q⟩
  .rw[e2] at ho;simp only[b0L] at ho;exact⟨_,e1,λ τ xs q=>by rw[q] at ho;cases ho⟩
 have GX:∀ id τ xs,lk2 id=some (.aD τ xs)->lk id=some (.aD τ xs):=λ id τ xs ht=>by
  obtain⟨o',q1,q2⟩:=hold id _ ht;rw[q1,q2 τ xs rfl]
 exact {
  defers:=h.defers,size:=h.size,bd:=h.bd,oB:=h.oB,gh:=h.gh,sX:=h.sX,eV:=h.eV
  aE:=λ i=>(h.aE i).mono (λ id _=>⟨gV id,rfl⟩) (λ _ q=>q) (λ _ _=>rfl)
  aR:=λ id o ho=>by
   rcases qh id with e|⟨cs,eJ,e1,e2,b,l,t,e3,e4,e5⟩
   .rw[e] at ho;exact (h.aR id o ho).mono rfl (λ _ _=>rfl) (λ j _=>⟨gV j,rfl⟩) (λ _ q=>q) (λ _ _=>rfl)
   .rw[e2] at ho;simp only[b0L] at ho;subst ho;exact⟨b,l,t,e3,e4,e5⟩
  place:=λ id o b ho hb=>by
   obtain⟨o',q1,_⟩:=hold id o ho;exact h.place id o' b q1 hb
  apart:=λ id er o o' b ho dj hb cO=>by
   obtain⟨p,q1,_⟩:=hold id o ho;obtain⟨p',q2,_⟩:=hold er o' dj;exact h.apart id er p p' b q1 q2 hb cO
  aW:={
   tr:=λ id τ xs ht=>h.aW.tr id τ xs (GX id τ xs ht)
   nd:=λ id τ xs ht=>h.aW.nd id τ xs (GX id τ xs ht)
   pl:=λ id τ xs b ht hb=>by
    obtain⟨p1,p2,p3,p4⟩:=h.aW.pl id τ xs b (GX id τ xs ht) hb;refine⟨p1,p2,p3,λ i o ho=>?_⟩;obtain⟨o',q1,_⟩:=hold i o ho;exact p4 i o' q1
   ap:=λ id er τ bw xs dw b ht S2=>h.aW.ap id er τ bw xs dw b (GX id τ xs ht) (GX er bw dw S2) }
  root:=λ id v hr ht=>h.root id v hr (by
   match hl:lk2 id,ht with
   | some (.aD τ xs),_=>rw[GX id τ xs hl];rfl)
  mG:=h.mG
  ep:=λ id v hr ht=>h.ep id v hr (by
   rcases qh id with e|⟨cs,eJ,e1,e2,_⟩
   .rw[<-e];exact ht
   .rw[e1];rfl)
  hH:=h.hH }
theorem II{m:List (Nat×Nat)}{S:Nat->Prop}{B:Nat->Nat}{lk:Nat->Option aG}:∀ {sh:List (List CK)} {k:Nat} {cr:List (List TV)} {n:Nat} {bs ts:List (Nat×aG)} {fp:List Nat},wg lk m sh k cr n=some (bs,ts)->mR w S B k sh cr fp ->
  ∃ yD xs,ts=cw n yD/\dE w (yD.map TV.bc) xs fp/\(∀ u∈yD,u.τ.agg=false) /\
   (∀ j,k<=j->j<k+sh.length->∃ (id:Nat) (eJ:List AV) (l:List Value) (t:TypeId),ah m j=some id/\(id,aG.box eJ)∈bs/\w.heap[B j]?=some (.cells l.toArray t (0,0))/\l.length=eJ.length) /\
   (∀ p∈bs,∃ (j:Nat) (eJ:List AV) (l:List Value) (t:TypeId),k<=j/\j<k+sh.length/\ah m j=some p.1/\p.2 = .box eJ/\w.heap[B j]?=some (.cells l.toArray t (0,0))/\l.length=eJ.length /\
    ∀ (G':Gh) (lk':Nat->Option aG),(∀ b,S b->G'.S b)->(∀ j id,ah m j=some id->G'.η id = .pointer (some ⟨B j,0,none⟩)/\jG (lk' id)=true)->bf (C1 c G' lk' w) (cz n yD) xs->bf (C1 c G' lk' w) eJ l)
 | [],k,[],n,bs,ts,fp,h,hb=>by
  simp only[wg,b0L,b0O] at h;obtain⟨rfl,rfl⟩:=h;exact⟨[],[],rfl,⟨rfl,hb⟩,by simp,λ j h1 h2=>by simp at h2;omega,by simp⟩
 | ks::sh,k,ds::cr,n,bs,ts,fp,h,hb=>by
  simp only[wg] at h;split at h;case h_2=>cases h
  case h_1 id bm =>
  split at h;case h_2=>cases h
  case h_1 cs oR =>
  split at h;case h_2=>cases h
  case h_1 r os n1 hr =>
  split at h;case h_2=>cases h
  case h_1 bs1 ts1 hr2 =>
  simp only[b0L,b0O] at h;obtain⟨rfl,rfl⟩:=h;obtain⟨l,t,f1,f2,rfl,hw,hB,hbs⟩:=hb;obtain⟨e1,e2⟩:=yV hr;obtain⟨yD,xs,q1,q2,q3,q4,q5⟩:=II hr2 hbs;obtain⟨o1,o2,o3⟩:=hB.yD;have BK:∀ {G':Gh} {lk':Nat->Option aG},bf (C1 c G' lk' w) (cz n (eP ks ds++yD)) (p7 ks l++xs)->bf (C1 c G' lk' w) (cz n (eP ks ds)) (p7 ks l)/\bf (C1 c G' lk' w) (cz n1 yD) xs:=λ {G' lk'} q=>by
   rw[wk,<-e2] at q;have hl:(cz n (eP ks ds)).length=(p7 ks l).length:=by
    rw[<-o3];have:∀ (us:List TV) (n:Nat),(cz n us).length=us.length:=λ us=>by
     induction us with
     | nil=>intro n;rfl
     | cons u us ih=>intro n;simp[cz,ih]
    exact this _ _
   have h1:=q.take (cz n (eP ks ds)).length;have h2:=q.drop (cz n (eP ks ds)).length;rw[b2T,hl,b2T] at h1;rw[b2Z,hl,b2Z] at h2;exact⟨h1,h2⟩
  have hrl:l.length=r.length:=by
   have:∀ {ks:List CK} {cs:List AV} {ds:List TV} {n n':Nat} {r:List AV} {os:List (Nat×aG)} {l:List Value} {fp:List Nat},cE m ks cs ds n=some (r,os,n')->p9 w S B ks ds l fp->l.length=r.length:=by
    intro ks;induction ks with
    | nil =>
     intro cs ds n n' r os l fp h hb;cases cs<;>cases ds<;>simp[cE] at h;obtain⟨rfl,_⟩:=h;cases l with
     | nil=>rfl
     | cons x l=>cases hb
    | cons k0 ks ih =>
     intro cs ds n n' r os l fp h hb;cases l with
     | nil=>cases k0<;>cases ds<;>cases hb
     | cons x l =>
      cases k0 with
      | d τ =>
       cases cs with
       | nil=>simp[cE] at h
       | cons c0 cs =>
        cases ds with
        | nil=>cases hb
        | cons v ds =>
         simp only[cE] at h;split at h;case h_2=>cases h
         case h_1 hv =>
         split at h;case h_2=>cases h
         case h_1 r1 os1 n1 hr =>
         simp only[b0L,b0O] at h;obtain⟨rfl,rfl,rfl⟩:=h;obtain⟨_,h2⟩:=hb;simp[ih hr h2]
      | o τ =>
       cases cs with
       | nil=>simp[cE] at h
       | cons c0 cs =>
        cases ds with
        | nil=>cases hb
        | cons v ds =>
         simp only[cE] at h;split at h;case h_2=>cases h
         case h_1 hv =>
         split at h;case h_2=>cases h
         case h_1 r1 os1 n1 hr =>
         simp only[b0L,b0O] at h;obtain⟨rfl,rfl,rfl⟩:=h;obtain⟨_,_,_,_,h2⟩:=hb;simp[ih hr h2]
      | p j =>
       cases cs with
       | nil=>cases ds<;>simp[cE] at h
       | cons c0 cs =>
        have hb:x = .pointer (some ⟨B j,0,none⟩)/\p9 w S B ks ds l fp:=by cases ds<;>exact hb
        simp only[cE] at h;split at h;case h_2=>cases h
        case h_1 id =>
        split at h;case h_2=>cases h
        case h_1 i hi =>
        split at h;case h_2=>cases h
        case h_1 r1 os1 n1 hbe hr =>
        simp only[b0L,b0O] at h;obtain⟨rfl,rfl,rfl⟩:=h;simp[ih hr hb.2]
   exact this hr hB
  refine⟨eP ks ds++yD,p7 ks l++xs,by rw[GH,e1,q1,e2],by rw[b2G];exact o1.append q2,λ u hu=>(b0Q.1 hu).elim (o2 u) (q3 u),λ j h1 h2=>?_,λ p hp=>?_⟩
  .by_cases hj:j=k
   .subst hj;exact⟨id,r,l,t,bm,b3f ..,hw,hrl⟩
   .obtain⟨er,eJ,l',t',g1,g2,g3,g4⟩:=q4 j (by omega) (by simp at h2;omega);exact⟨er,eJ,l',t',g1,b2t _ g2,g3,g4⟩
  .rcases b1e.1 hp with rfl|hp
   .exact⟨k,r,l,t,b1E _,by simp,bm,rfl,hw,hrl,λ G' lk' h1 h2 h3=>vh h1 h2 hr hB (BK h3).1⟩
   .obtain⟨j,eJ,l',t',g1,g2,g3,g4,g5,g7,g6⟩:=q5 p hp;exact⟨j,eJ,l',t',by omega,by simp;omega,g3,g4,g5,g7,λ G' lk' h1 h2 h3=>g6 G' lk' h1 h2 (BK h3).2⟩
 | [],_,_::_,_,_,_,_,h,_=>by simp[wg] at h
 | _::_,_,[],_,_,_,_,h,_=>by simp[wg] at h
theorem xr{α:Type}:∀ {l:List (Nat×α)} {k:Nat},(∀ p∈l,p.1≠k)->ah l k=none
 | [],k,_=>rfl
 | (j,o)::l,k,h=>by
  rw[tV,b0Y (λ e=>h (j,o) (by simp) e.symm)];exact xr λ p hp=>h p (by simp[hp])
theorem IB:∀ (ids:List Nat) (l:List (Nat×aG)) (i:Nat),ah (ki ids l) i=if i∈ids then none else ah l i
 | [],l,i=>by simp[ki]
 | id::r,l,i=>by
  rw[ki,IB r,gq];by_cases h1:i∈r
  .simp[h1]
  .by_cases h2:i=id
   .simp[h1,h2]
   .simp[h1,h2]
theorem Jt{m:List (Nat×Nat)}(h2:(m.map (·.2)).Nodup){j k id:Nat}(hj:ah m j=some id)(hk:ah m k=some id):j=k:=by
 have e1:=gX hj;have e2:=gX hk;have:(j,id)=(k,id):=by
  clear hj hk;induction m with
  | nil=>cases e1
  | cons p m ih =>
   simp only[b1J,b1G] at h2;rcases b1e.1 e1 with q1|e1
   .rcases b1e.1 e2 with q2|e2
    .rw[q1,q2]
    .exact absurd (b0S.2 ⟨(k,id),e2,by rw[<-q1]⟩) h2.1
   .rcases b1e.1 e2 with q2|e2
    .exact absurd (b0S.2 ⟨(j,id),e1,by rw[<-q2]⟩) h2.1
    .exact ih h2.2 e1 e2
 exact congrArg Prod.fst this
theorem CN{m:List (Nat×Nat)}{k id:Nat}(h:ah m k=some id):id∈m.map (·.2):=b0S.2 ⟨_,gX h,rfl⟩
theorem a3C{m:List (Nat×Nat)}{n:Nat}(h1:(m.map (·.1)).Nodup)(hl:m.length=n)(hk:∀ k,k<n->∃ id,ah m k=some id):∀ p∈m,p.1<n:=by
 have wV:List.range n ⊆ m.map (·.1):=λ k qp=>by
  obtain⟨id,q⟩:=hk k (List.mem_range.1 qp);exact b0S.2 ⟨_,gX q,rfl⟩
 have QC:(m.map (·.1)) ⊆ List.range n:=by
  intro x hx;refine b3B λ hn=>?_;have h3:(x::List.range n).Nodup:=b1G.2 ⟨hn,b3J⟩;have h4:(x::List.range n) ⊆ m.map (·.1):=λ y hy=>(b1e.1 hy).elim (λ e=>e ▸ hx) (λ hy=>wV hy);have:=b3g h3 h4;simp at this;omega
 exact λ p hp=>List.mem_range.1 (QC (b0S.2 ⟨p,hp,rfl⟩))
theorem a2b(hE:bU c.P c.E)(h:Inv c G s a w){o:Oper}{vc:Vc}{s':ai}(hq:Zp c.E s o=some (vc,s'))(fZ:vc.ok){Q:Exit->Act->World->Prop} :
  o.wp c.P a w (λ a' w'=>∃ G',Inv c G' s' a' w') Q:=by
 unfold Zp at hq;split at hq;case h_2=>cases hq
 case h_1 d hd =>
 split at hq;case h_2=>cases hq
 case h_1 cl bL =>
 split at hq;case h_2=>cases hq
 case h_1 f kR =>
 split at hq;case h_2=>cases hq
 case h_1 sk hsk =>
 split at hq;case h_2=>cases hq
 case h_1 m0 hm0 =>
 split at hq;case h_2=>cases hq
 case h_1 cr ids m hm =>
 split at hq;case h_2=>cases hq
 case h_1 a7n =>
 split at hq;case h_2=>cases hq
 case h_1 Z9 has =>
 split at hq;case h_2=>cases hq
 case h_1 pre res iB hc =>
 split at hq;case h_2=>cases hq
 case h_1 bs ts vx =>
 split at hq;case h_2=>cases hq
 case h_1 Kg =>
 simp only[Option.some.injEq,Prod.mk.injEq] at hq;obtain⟨rfl,rfl⟩:=hq;simp only[Bool.and_eq_true] at a7n;obtain⟨hn1,hn2,hn3,hn4⟩:=a7n;have hn1:=dz hn1;have hn2:=dz hn2;have hn3:=dz hn3;have hn4:=Nat.eq_of_beq_eq_true hn4;simp only[Bool.and_eq_true,List.all_eq_true] at Kg;have xN:∀ p∈bJ (cn d) res++ts,(ids.foldl ai.gone s).ah p.1=none:=λ p hp=>by simpa using Kg.1 p hp
 have vw:=dz Kg.2;obtain⟨rV,mM⟩:=hE.Ya f sk Z9 cr pre res iB hsk hc fZ;obtain⟨_,a1v⟩:=zw hm0;obtain⟨hx0,YO,fa,Z6,a0c,a9A⟩:=yd h hm hn1;have Z6:=Z6 m (qa.refl m);have a1v:∀ (i k:Nat),sk.ps[i]?=some (some k)->∃ id,(cl.args.toList.map s.eval)[i]?=some (AV.ptr id 0)/\ah m k=some id:=λ i k q=>by
  obtain⟨id,q1,q2⟩:=a1v i k q;exact⟨id,q1,hx0 k id q2⟩
 have h1:Inv c G (ids.foldl ai.gone s) a w:=zI ids h;have hF:∀ b,b∈fa->yF c G (ids.foldl ai.gone s).ah w b:=λ b hb=>Ol h (a9A b hb);have E8:∀ k,k<sk.sh.length->∃ (id:Nat) (cs:List AV),ah m k=some id/\(ids.foldl ai.gone s).ah id=some (.box cs):=λ k hk=>by
  obtain⟨id,cs,q1,q2⟩:=YO k (Nat.zero_le _) (by simpa using hk);refine⟨id,?_⟩;have bm:id∉ids:=λ hi=>by
   have:∀ {sh:List (List CK)} {k:Nat} {m m':List (Nat×Nat)} {cr:List (List TV)} {ids:List Nat},mQ s.ah sh k m=some (cr,ids,m')->∀ i∈ids,∀ cs,s.ah i≠some (.box cs):=by
    have xM:∀ {ks:List CK} {cs:List AV} {m m':List (Nat×Nat)} {ds:List TV} {ids:List Nat},dJ s.ah ks cs m=some (ds,ids,m')->∀ i∈ids,∀ cs,s.ah i≠some (.box cs):=by
     intro ks;induction ks with
     | nil =>
      intro cs m m' ds ids ht;cases cs<;>simp[dJ] at ht;obtain⟨_,rfl,_⟩:=ht;simp
     | cons k0 ks ih =>
      intro cs m m' ds ids ht;cases cs with
      | nil=>cases k0<;>simp[dJ] at ht
      | cons v cs =>
       cases k0 with
       | d τ =>
        simp only[dJ] at ht;split at ht;case h_2=>cases ht
        case h_1 y hy yp =>
        split at ht;case h_2=>cases ht
        case h_1 ds1 a0j m1 hr =>
        simp only[b0L,b0O] at ht;obtain⟨_,rfl,_⟩:=ht;exact ih hr
       | o τ =>
        simp only[dJ] at ht;split at ht;case h_2=>cases ht
        case h_1 y i hy yp =>
        split at ht;case h_2=>cases ht
        case h_1 ds1 a0j m1 hr =>
        simp only[b0L,b0O] at ht;obtain⟨_,rfl,_⟩:=ht;intro j hj Yx;rcases b0Q.1 hj with hj|hj
        .unfold fF at hy;split at hy
         .split at hy
          .simp only[b0L,b0O] at hy;obtain⟨_,rfl⟩:=hy;cases hj
          .cases hy
         .split at hy
          .simp only[b0L,b0O] at hy;obtain⟨_,rfl⟩:=hy;cases hj
          .cases hy
         .split at hy
          .rename_i hl;split at hy
           .simp only[b0L,b0O] at hy;obtain⟨_,rfl⟩:=hy;simp only[b1x] at hj;subst hj;rw[hl];simp
           .cases hy
          .cases hy
         .split at hy
          .rename_i hl;split at hy
           .simp only[b0L,b0O] at hy;obtain⟨_,rfl⟩:=hy;simp only[b1x] at hj;subst hj;rw[hl];simp
           .cases hy
          .cases hy
         .cases hy
        .exact ih hr j hj Yx
       | p j =>
        simp only[dJ] at ht;split at ht;case h_2=>cases ht
        case h_1 id =>
        split at ht
        .split at ht
         .exact ih ht
         .cases ht
        .exact ih ht
    intro sh;induction sh with
    | nil =>
     intro k m m' cr ids ht;simp only[mQ,b0L,b0O] at ht;obtain⟨_,rfl,_⟩:=ht;simp
    | cons ks sh ih =>
     intro k m m' cr ids ht;simp only[mQ] at ht;split at ht;case h_2=>cases ht
     case h_1 id bm =>
     split at ht;case h_2=>cases ht
     case h_1 cs oR =>
     split at ht;case h_2=>cases ht
     case h_1 ds i m1 hr =>
     split at ht;case h_2=>cases ht
     case h_1 a9f a0j m2 hr2 =>
     simp only[b0L,b0O] at ht;obtain⟨_,rfl,_⟩:=ht;intro j hj Yx;rcases b0Q.1 hj with hj|hj
     .exact xM hr j hj Yx
     .exact ih hr2 j hj Yx
   exact this hm id hi cs q2
  have:∀ (ids:List Nat) (s:ai) (cs:List AV),id∉ids->s.ah id=some (.box cs)->∃ eJ,(ids.foldl ai.gone s).ah id=some (.box eJ):=by
   intro ids;induction ids with
   | nil=>intro s cs _ hs;exact⟨cs,hs⟩
   | cons i ids ih =>
    intro s cs hi hs;have gU:id≠i:=λ e=>hi (by simp[e]);refine ih (s.gone i) (cs.map (AV.kill i)) (λ q=>hi (by simp[q])) ?_;rw[Fj,b0Y gU,hs];rfl
  obtain⟨eJ,q3⟩:=this ids s cs bm q2;exact⟨eJ,q1,q3⟩
 generalize hs1:ids.foldl ai.gone s=s1 at *
 have gH:∀ k id,ah m k=some id->k<sk.sh.length->G.η id = .pointer (some ⟨rk G m k,0,none⟩)/\gi (G.η id)=some (rk G m k):=λ k id hk bX=>by
  obtain⟨er,cs,q1,q2⟩:=E8 k bX;rw[hk] at q1;simp only[b0L] at q1;subst q1;obtain⟨b,l,t,k1,_⟩:=h1.aR id _ q2;have:rk G m k=b:=by
   simp only[rk,hk,k1];rfl
  rw[this,k1];exact⟨rfl,rfl⟩
 have ph:=a3C hn2 hn4 (λ k hk=>by obtain⟨id,_,q,_⟩:=E8 k hk;exact⟨id,q⟩);have a5d:∀ id,id∈m.map (·.2)->∃ k cs,k<sk.sh.length/\ah m k=some id/\s1.ah id=some (.box cs):=λ id bm=>by
  obtain⟨⟨k,er⟩,hp,rfl⟩:=b0S.1 bm;have hk:=ph _ hp;have hl:=yS hn2 hp;obtain⟨id2,cs,q1,q2⟩:=E8 k hk;rw[hl] at q1;simp only[b0L] at q1;subst q1;exact⟨k,cs,hk,hl,q2⟩
 have OK:∀ j k,j<sk.sh.length->k<sk.sh.length->rk G m j=rk G m k->j=k:=λ j k hj hk e=>by
  obtain⟨idj,csj,j1,j2⟩:=E8 j hj;obtain⟨idk,csk,k1,k2⟩:=E8 k hk;have:=h1.apart idj idk _ _ (rk G m j) j2 k2 (gH j idj j1 hj).2 (by rw[e];exact (gH k idk k1 hk).2);subst this;exact Jt hn3 j1 k1
 have a2D:∀ k,k<sk.sh.length->(c.w0.heap.size<=rk G m k\/c.X (rk G m k))/\¬ G.S (rk G m k)/\rk G m k<w.heap.size:=λ k hk=>by
  obtain⟨id,cs,k1,k2⟩:=E8 k hk;exact h1.place id _ _ k2 (gH k id k1 hk).2
 have a9z:∀ b∈fa,∀ k,k<sk.sh.length->rk G m k≠b:=λ b hb k hk e=>by
  obtain⟨id,cs,k1,k2⟩:=E8 k hk;exact (hF b hb).2.2.2.1 id _ k2 (by rw[<-e];exact (gH k id k1 hk).2)
 have hXo:∀ b,BX sk.sh.length (rk G m) fa b->(c.w0.heap.size<=b\/c.X b)/\¬ G.S b:=λ b hb=>by
  rcases hb with hb|⟨k,hk,rfl⟩
  .exact⟨(hF b hb).1,(hF b hb).2.1⟩
  .exact⟨(a2D k hk).1,(a2D k hk).2.1⟩
 have UX:∀ b,BX sk.sh.length (rk G m) fa b->¬ St c G.S b:=λ b hb q=>by
  obtain⟨q1,q2⟩:=hXo b hb;rcases q with q|⟨q,q3,_⟩
  .exact q2 q
  .exact q1.elim (λ q=>by omega) q3
 have H9:∀ id o b,id∉m.map (·.2)->s1.ah id=some o->gi (G.η id)=some b->¬ BX sk.sh.length (rk G m) fa b:=λ id o b bm ho hb q=>by
  rcases q with q|⟨k,hk,rfl⟩
  .exact (hF b q).2.2.2.1 id _ ho hb
  .obtain⟨er,cs,k1,k2⟩:=E8 k hk;have:=h1.apart id er _ _ _ ho k2 hb (gH k er k1 hk).2;subst this;exact bm (CN k1)
 have a9n:∀ id τ xs b,s1.ah id=some (.aD τ xs)->b∈G.φ id->¬ BX sk.sh.length (rk G m) fa b:=λ id τ xs b ht hb q=>by
  rcases q with q|⟨k,hk,rfl⟩
  .exact (hF b q).2.2.2.2 id τ xs ht hb
  .obtain⟨er,cs,k1,k2⟩:=E8 k hk;exact (h1.aW.pl id τ xs _ ht hb).2.2.2 er _ k2 (gH k er k1 hk).2
 have eU:=I6 hE h1 (mf:=m) UX (λ id cs b ho hb=>H9 id _ b (ud ho).2.1 (ud ho).1 hb) (lk0:=s.ah) has (bf.tg (bI h1) cl.args.toList) (bf.tg (bI h) cl.args.toList) a1v;unfold Oper.wp;rw[lp bL kR rfl rV];simp only[Oper.upon];refine (mM w G.S (rk G m) _ fa h1.sOk Z6 a0c (λ b hb=>⟨(hF b hb).2.2.1,(hF b hb).2.1,a9z b hb⟩) (λ k hk=>⟨(a2D k hk).2.2,(a2D k hk).2.1⟩) OK eU).mono ?_;rintro e w' ⟨x,S',fp,Oe,rfl,hk,hS1,hS2,hS3,hO,hB',dt,tl,hBS⟩;obtain⟨yD,xs,e1,e2,e3,e4,e5⟩:=II vx hB';let IA:Nat->Option aG:=λ i=>match ah bs i with
  | some (.box cs)=>some (.box (List.replicate cs.length .any))
  | _=>s1.ah i
 have YP:∀ id,id∈m.map (·.2)->∃ (k:Nat) (eJ:List AV),k<sk.sh.length/\ah m k=some id/\ah bs id=some (.box eJ)/\∃ (l:List Value) (t:TypeId),w'.heap[rk G m k]?=some (.cells l.toArray t (0,0))/\l.length=eJ.length:=λ id bm=>by
  obtain⟨k,cs,k1,k2,k3⟩:=a5d id bm;obtain⟨er,eJ,l,t,g1,g2,g3,g4⟩:=e4 k (Nat.zero_le _) (by simpa using k1);rw[k2] at g1;simp only[Option.some.injEq] at g1;subst g1;have cY:∃ o,ah bs id=some o:=by
   cases hl:ah bs id with
   | some o=>exact⟨o,rfl⟩
   | none =>
    exfalso;have:∀ {l:List (Nat×aG)} {k:Nat},ah l k=none->∀ p∈l,p.1≠k:=by
     intro l;induction l with
     | nil=>intro k _ p hp;cases hp
     | cons q l ih =>
      intro k hq p hp;obtain⟨j,o⟩:=q;rw[tV] at hq;split at hq
      .cases hq
      .rename_i gU;rcases b1e.1 hp with rfl|hp
       .exact λ e=>gU e.symm
       .exact ih hq p hp
    exact this hl _ g2 rfl
  obtain⟨o,ho⟩:=cY;obtain⟨j,Yx,l2,t2,_,j2,j3,j4,j5,j6,_⟩:=e5 _ (gX ho);have:j=k:=Jt hn3 j3 k2;subst this;simp only at j4;subst j4;exact⟨j,Yx,k1,k2,ho,l2,t2,j5,j6⟩
 have a7m:∀ id,id∉m.map (·.2)->ah bs id=none:=λ id bm=>xr λ p hp e=>by
  obtain⟨j,_,_,_,_,_,j3,_⟩:=e5 p hp;exact bm (e ▸ CN j3)
 have XN:∀ id,id∉m.map (·.2)->IA id=s1.ah id:=λ id bm=>by simp only[IA,a7m id bm]
 have a5b:∀ id k eJ,ah m k=some id->ah bs id=some (.box eJ)->IA id=some (.box (List.replicate eJ.length .any)):=λ id k eJ _ hb=>by simp only[IA,hb]
 have hA:bH c ⟨S',G.η,G.φ⟩ s1.sl s1.aE.length IA a w':=by
  refine Inv.a6h h1 (X:=BX sk.sh.length (rk G m) fa) hk (λ b hb=>(hXo b hb).1) (λ b hb=>(hXo b hb).2) hS1 hS2 hS3 (λ id=>?_) a9n;by_cases bm:id∈m.map (·.2)
  .obtain⟨k,eJ,q1,q2,q3,l,t,q4,q5⟩:=YP id bm;obtain⟨_,cs,_,_,q6⟩:=a5d id bm;obtain⟨g1,g2⟩:=gH k id q2 q1;refine .inr ⟨cs,_,q6,a5b id k eJ q2 q3,λ b hb=>?_,rk G m k,l,t,g1,q4,λ G' lk'=>?_⟩
   .rw[g2] at hb;simp only[b0L] at hb;subst hb;exact hBS k q1
   .have:∀ (l:List Value),bf (C1 c G' lk' w') (List.replicate l.length .any) l:=λ l=>by
     induction l with
     | nil=>exact trivial
     | cons x l ih=>exact⟨af,ih⟩
    rw[<-q5];exact this l
  .exact .inl ⟨XN id bm,λ o b ho hb=>H9 id o b bm ho hb⟩
 have a5h:∀ p∈bJ (cn d) res++ts,p.1∉m.map (·.2):=λ p hp bm=>by
  obtain⟨_,cs,_,_,q⟩:=a5d p.1 bm;rw[xN p hp] at q;cases q
 rw[b1k] at dt;obtain⟨nd1,nd2,nd3⟩:=dt;rw[b2G,b1k] at vw;obtain⟨dd1,dd2,dd3⟩:=vw;have hFr:Fr c ⟨S',G.η,G.φ⟩ IA w' (fp++Oe):=λ b hb=>by
  obtain⟨q1,q2,q3⟩:=tl b hb;have uC:∀ i o,IA i=some o->gi (G.η i)≠some b:=λ i o cU e=>by
   by_cases bm:i∈m.map (·.2)
   .obtain⟨k,eJ,g1,g2,_⟩:=YP i bm;rw[(gH k i g2 g1).2] at e;simp only[b0L] at e;exact q3 k g1 e
   .rw[XN i bm] at cU;rcases q1 with q1|⟨q1,_⟩
    .exact (hF b q1).2.2.2.1 i o cU e
    .have:=(h1.place i o b cU e).2.2;omega
  have hbt:∀ j τ zs,IA j=some (.aD τ zs)->b∉G.φ j:=λ j τ zs hj rU=>by
   by_cases bm:j∈m.map (·.2)
   .obtain⟨k,eJ,g1,g2,g3,_⟩:=YP j bm;rw[a5b j k eJ g2 g3] at hj;cases hj
   .rw[XN j bm] at hj;rcases q1 with q1|⟨q1,_⟩
    .exact (hF b q1).2.2.2.2 j τ zs hj rU
    .have:=(h1.aW.pl j τ zs b hj rU).2.2.1;omega
  rcases q1 with q1|⟨q1,q1'⟩
  .exact⟨(hF b q1).1,q2,b1c (hF b q1).2.2.1 hk.size,uC,hbt⟩
  .exact⟨.inl (b3a h1.bd.size q1),q2,q1',uC,hbt⟩
 have H8:∀ j,cn d<=j->c.R j=none:=λ j hj=>by
  cases hr:c.R j with
  | none=>rfl
  | some v=>have:=h.mG j v hr;unfold cn at hj;omega
 obtain⟨ys,uh,S3⟩:=MW (c:=c) (id:=cn d) hO;obtain⟨G1,Em,k1,k2,k3,k4,k5⟩:=hA.Ny (id:=cn d) uh nd1 (λ b hb=>hFr b (by simp[hb])) (λ p hp=>by
  rw[XN p.1 (a5h p (by simp[hp]))];exact xN p (by simp[hp])) dd1 H8
 rw[e1] at dd2 dd3 xN a5h;obtain⟨G2,lk2,p1,p2,p3,p4,_⟩:=k2.Di (us:=yD) (cs:=xs) (fp:=Oe) (id:=cn d+60) e3 e2 nd2 (k5 Oe (λ b hb=>hFr b (by simp[hb])) λ b hb cO=>nd3 b cO b hb rfl) (λ p hp=>by
  rw[k1 p.1];unfold jZ;rw[xr (l:=bJ (cn d) res) λ q hq e=>dd3 q.1 (List.mem_map.2 ⟨q,hq,rfl⟩) p.1 (List.mem_map.2 ⟨p,hp,rfl⟩) e];simp only;rw[XN p.1 (a5h p (by simp[hp]))];exact xN p (by simp[hp])) dd2 (λ j hj=>H8 j (by omega))
 have a9P:VR c G2 lk2 w' (o8 (cn d) res) x:=S3 G2 lk2 (k4.imp λ u y _ hy=>hy.ext p3);have DX:=bH.put (d:=some d) p2 a9P;have a7p:∀ i,ai.ah { aE:=s1.aE.set d (o8 (cn d) res),aR:=bs++(bJ (cn d) res++ts)++ki (m.map (·.2)) s1.aR } i=jZ bs (jZ (bJ (cn d) res) (jZ ts (λ i=>if i∈m.map (·.2) then none else s1.ah i))) i:=λ i=>by
  show ah (bs++(bJ (cn d) res++ts)++ki (m.map (·.2)) s1.aR) i=_;rw[b1P,tU,show ah (bJ (cn d) res++ts++ki (m.map (·.2)) s1.aR)=jZ (bJ (cn d) res) (jZ ts (λ i=>if i∈m.map (·.2) then none else s1.ah i)) from funext λ j=>by
   rw[b1P,tU,show ah (ts++ki (m.map (·.2)) s1.aR)=jZ ts (λ i=>if i∈m.map (·.2) then none else s1.ah i) from funext λ j=>by
    rw[tU,show ah (ki (m.map (·.2)) s1.aR)=(λ i=>if i∈m.map (·.2) then none else s1.ah i) from funext λ j=>IB _ _ j]]]
 generalize cI:({ aE:=s1.aE.set d (o8 (cn d) res),aR:=bs++(bJ (cn d) res++ts)++ki (m.map (·.2)) s1.aR }:ai)=s2 at *
 have a9E:∀ i,lk2 i=jZ ts (jZ (bJ (cn d) res) IA) i:=λ i=>by
  rw[p1 i,e1];unfold jZ;rw[k1 i];rfl
 have XO:∀ i,i∉m.map (·.2)->s2.ah i=lk2 i:=λ i bm=>by
  rw[a7p i,a9E i];unfold jZ;rw[a7m i bm,XN i bm];simp only[if_neg bm];cases hV:ah (bJ (cn d) res) i with
  | none=>rfl
  | some o =>
   rw[xr (l:=ts) λ q hq e=>dd3 i (b0S.2 ⟨(i,o),gX hV,rfl⟩) q.1 (b0S.2 ⟨q,by rw[<-e1];exact hq,rfl⟩) e.symm]
 have gT:∀ i,i∈m.map (·.2)->∃ k eJ,k<sk.sh.length/\ah m k=some i/\ah bs i=some (.box eJ)/\lk2 i=some (.box (List.replicate eJ.length .any))/\s2.ah i=some (.box eJ)/\G2.η i = .pointer (some ⟨rk G m k,0,none⟩):=λ i bm=>by
  obtain⟨k,eJ,q1,q2,q3,_⟩:=YP i bm;have hA':=a5b i k eJ q2 q3;obtain⟨r1,r2,_⟩:=(k3.trans p3).old i _ hA';refine⟨k,eJ,q1,q2,q3,r1,?_,by rw[r2];exact (gH k i q2 q1).1⟩;rw[a7p i];unfold jZ;rw[q3]
 have gV:∀ i,gw (lk2 i) (s2.ah i):=λ i=>by
  by_cases bm:i∈m.map (·.2)
  .obtain⟨k,eJ,_,_,_,q4,q5,_⟩:=gT i bm;rw[q4,q5];exact⟨λ _=>rfl,(λ e τ xs q=>by cases q),(λ q=>by cases q),λ q=>by cases q⟩
  .rw[XO i bm];exact gw.refl _
 have a8g:=bH.a9V (lk2:=s2.ah) DX (λ i=>by
  by_cases bm:i∈m.map (·.2)
  .obtain⟨k,eJ,q1,q2,q3,q4,q5,q6⟩:=gT i bm;obtain⟨j,Yx,l,t,_,j2,j3,j4,j5,_,j7⟩:=e5 _ (gX q3);have:j=k:=Jt hn3 j3 q2;subst this;simp only[aG.box.injEq] at j4;subst j4;refine .inr ⟨_,_,q4,q5,rk G m j,l,t,q6,j5,?_⟩;refine j7 G2 s2.ah (λ b hb=>by rw[p3.S,k3.S];exact hb) (λ j' id Ic=>?_) (p4.imp λ u y _ hy=>hy.mono (λ i _=>⟨gV i,rfl⟩) (λ _ q=>q) (λ _ _=>rfl));obtain⟨k',b0G,g1,g2,_,_,g5,g6⟩:=gT id (CN Ic);have:j'=k':=Jt hn3 Ic g2;subst this;exact⟨g6,by rw[g5];rfl⟩
  .exact .inl (XO i bm))
 refine⟨G2,?_⟩;unfold Inv;rw[hd,<-cI,show ai.sl { aE:=s1.aE.set d (o8 (cn d) res),aR:=bs++(bJ (cn d) res++ts)++ki (m.map (·.2)) s1.aR }=oK s1.aE.length s1.sl (some d) (o8 (cn d) res) from vl s1.aE d _ _,
  show ({ aE:=s1.aE.set d (o8 (cn d) res),aR:=bs++(bJ (cn d) res++ts)++ki (m.map (·.2)) s1.aR }:ai).aE.length=s1.aE.length from by simp,cI]
 exact a8g
end
theorem DN(id:Nat)(u:AV):∀ l:List AV,AV.US id u l=l.map (AV.J1 id u)
 | []=>rfl
 | v::r=>congrArg _ (DN id u r)
section
variable {c:Ctx} {G:Gh} {s:ai} {a:Act} {w w':World}
theorem a5N{lk:Nat->Option aG}{id:Nat}{e:TypeId}{τ:Ty}{xs:List τ.den}(ho:OR c G lk w id (.row e τ xs)){S':Nat->Prop}(hS:∀ b,G.S b->S' b)(hb:∀ b,gi (G.η id)=some b->S' b) :
  Rd w S' (Ty.bc (.slice τ) xs) [G.η id]:=by
 obtain⟨l,h1,h2,h3⟩:=ho;exact X0 h1 h2 h3 hS hb
theorem C1.J1{lk lk':Nat->Option aG}{id:Nat}{e:TypeId}{τ:Ty}{xs:List τ.den}(bm:lk id=some (.row e τ xs))(ho:OR c G lk w id (.row e τ xs)){S':Nat->Prop}(hS:∀ b,G.S b->S' b)(hb:∀ b,gi (G.η id)=some b->S' b)
  (cY:∀ j,j≠id->gw (lk j) (lk' j)) {v:AV} {x:Value} (h:C1 c G lk w v x):C1 c ⟨S',G.η,G.φ⟩ lk' w (AV.J1 id (.aT ⟨.slice τ,xs⟩) v) x:=by
 have bd:(∀ j,v.refs j=true->j≠id)->C1 c ⟨S',G.η,G.φ⟩ lk' w v x:=λ hr=>h.mono (λ j hj=>⟨cY j (hr j hj),rfl⟩) hS (λ _ _=>rfl);cases v with
 | row i =>
  simp only[AV.J1];split
  .rename_i hi;have hi:=b0P hi;subst hi;refine⟨rfl,?_⟩;rw[h.1];exact a5N ho hS hb
  .rename_i hi;refine bd λ j hj=>?_;simp only[AV.refs] at hj;have:=b0P hj;intro e;subst this e;simp at hi
 | gp i k off =>
  simp only[AV.J1];split
  .trivial
  .rename_i hi;refine bd λ j hj=>?_;simp only[AV.refs] at hj;have:=b0P hj;intro e;subst this e;simp at hi
 | ptr i off =>
  refine bd λ j hj=>?_;simp only[AV.refs] at hj;have:=b0P hj;intro e;subst this e;obtain⟨b,_,_,h3⟩:=h;rw[bm] at h3;cases h3
 | agg cs=>exact h.elim
 | mI cs=>exact h.elim
 | dO f cs=>exact h.elim
 | me v=>exact bd λ j hj=>by cases hj
 | any=>trivial
 | fO=>exact h
 | aT u=>exact bd λ j hj=>by cases hj
 | nil=>exact bd λ j hj=>by cases hj
 | dH u=>exact bd λ j hj=>by cases hj
 | fn f=>exact bd λ j hj=>by cases hj
 | mp i =>
  refine bd λ j hj=>?_;simp only[AV.refs] at hj;have:=b0P hj;intro e;subst this e;have h3:=h.2.1;rw[bm] at h3;cases h3
 | aD i =>
  refine bd λ j hj=>?_;simp only[AV.refs] at hj;have:=b0P hj;intro e;subst this e;have h1:=h.1;rw[bm] at h1;cases h1
 | sub i k o z =>
  refine bd λ j hj=>?_;simp only[AV.refs] at hj;have:=b0P hj;intro e;subst this e;have h1:=h.1;rw[bm] at h1;cases h1
 | gQ i k o z =>
  refine bd λ j hj=>?_;simp only[AV.refs] at hj;have:=b0P hj;intro e;subst this e;have h1:=h.1;rw[bm] at h1;cases h1
theorem DM(id:Nat)(u:AV):∀ l:List AV,AV.UR id u l=l.map (AV.GP id u)
 | []=>rfl
 | v::r=>congrArg _ (DM id u r)
theorem C1.GP{lk lk':Nat->Option aG}{id:Nat}{τ:Ty}{xs:List τ.den}(bm:lk id=some (.aD τ xs))(hT:l6 w (G.η id) τ xs (G.φ id)){S':Nat->Prop}(hS:∀ b,G.S b->S' b)(hb:∀ b∈G.φ id,S' b)
  (cY:∀ j,j≠id->gw (lk j) (lk' j)) {v:AV} {x:Value} (h:C1 c G lk w v x):C1 c ⟨S',G.η,G.φ⟩ lk' w (AV.GP id (.aT ⟨.slice τ,xs⟩) v) x:=by
 have bd:(∀ j,v.refs j=true->j≠id)->C1 c ⟨S',G.η,G.φ⟩ lk' w v x:=λ hr=>h.mono (λ j hj=>⟨cY j (hr j hj),rfl⟩) hS (λ _ _=>rfl);have other:∀ i:Nat,(Nat.beq i id=false\/cN (lk i)=false)->(∀ j,v.refs j=true->Nat.beq i j=true)->C1 c ⟨S',G.η,G.φ⟩ lk' w v x:=λ i hi hr=>bd λ j hj e=>by
  have q:=b0P (hr j hj);subst q;subst e;rcases hi with hi|hi
  .simp at hi
  .rw[bm] at hi;cases hi
 cases v with
 | aD i =>
  simp only[AV.GP];split
  .rename_i hi;have hi:=b0P hi;subst hi;obtain⟨_,l,h2,_⟩:=h;exact⟨rfl,hT.rd h2 hb⟩
  .rename_i hi;exact other i (.inl hi) λ j hj=>hj
 | sub i k o z =>
  simp only[AV.GP];split
  .trivial
  .rename_i hi;exact other i (.inl hi) λ j hj=>hj
 | gQ i k o z =>
  simp only[AV.GP];split
  .trivial
  .rename_i hi;exact other i (.inl hi) λ j hj=>hj
 | row i=>exact other i (.inr (wJ h.2.1)) λ j hj=>hj
 | gp i k off =>
  refine other i (.inr ?_) λ j hj=>hj;obtain⟨b,n,cap,e,bw,dw,_,h3,_⟩:=h;rw[h3];rfl
 | ptr i off =>
  refine other i (.inr ?_) λ j hj=>hj;obtain⟨b,_,_,h3⟩:=h;match hl:lk i,h3 with
  | some (.box _),_=>rfl
 | mp i=>exact other i (.inr (Li h.2.1)) λ j hj=>hj
 | agg cs=>exact h.elim
 | mI cs=>exact h.elim
 | dO f cs=>exact h.elim
 | me v=>exact bd λ j hj=>by cases hj
 | any=>trivial
 | fO=>exact h
 | aT u=>exact bd λ j hj=>by cases hj
 | nil=>exact bd λ j hj=>by cases hj
 | dH u=>exact bd λ j hj=>by cases hj
 | fn f=>exact bd λ j hj=>by cases hj
structure Fx(F:AV->AV):Prop where
 aT:∀ v,F (.aT v) = .aT v
 agg:∀ cs,F (.agg cs) = .agg (cs.map F)
 mI:∀ cs,F (.mI cs) = .mI (cs.map F)
 dO:∀ f cs,F (.dO f cs) = .dO f (cs.map F)
 any:F .any = .any
 aD:∀ i,(∃ u,F (.aD i) = .aT u)\/F (.aD i) = .aD i
 dH:∀ v,F (.dH v) = .dH v
section
variable {F:AV->AV} {G':Gh} {lk lk':Nat->Option aG} (hF:Fx F) (hC:∀ v x,C1 c G lk w v x->C1 c G' lk' w (F v) x) (hS:∀ b,G.S b->G'.S b)
include hF hC hS
theorem CR.fx{v:AV}{x:Value}(h:CR c G lk w v x):CR c G' lk' w (F v) x:=by
 rcases h.inv with ⟨u,rfl,h1⟩|⟨cs,l,rfl,rfl,h1⟩|h1
 .rw[hF.aT];exact gM.mono h1 hS (λ _ _=>rfl)
 .rw[hF.agg];exact⟨l,rfl,bf.fX _ (h1.imp λ u y _ hy=>hC u y hy)⟩
 .exact (hC _ _ h1).a0O
theorem VR.fx{v:AV}{x:Value}(h:VR c G lk w v x):VR c G' lk' w (F v) x:=by
 have key:C1 c G lk w v x->VR c G' lk' w (F v) x:=λ q=>(hC v x q).jS;cases v with
 | aT u=>rw[hF.aT];exact gM.mono h hS (λ _ _=>rfl)
 | agg cs =>
  obtain⟨l,rfl,h2⟩:=h;rw[hF.agg];exact⟨l,rfl,bf.fX _ (h2.imp λ u y _ hy=>hC u y hy)⟩
 | mI vs =>
  obtain⟨l,rfl,h2⟩:=h;rw[hF.mI];refine⟨l,rfl,bf.fX _ (h2.imp λ u y _ hy=>?_)⟩;cases u with
  | any=>rw[hF.any];trivial
  | aT v=>rw[hF.aT];exact gM.mono hy hS (λ _ _=>rfl)
  | aD i =>
   have q:=hC (.aD i) y hy;rcases hF.aD i with ⟨u,e⟩|e<;>rw[e] at q ⊢
   .exact q.jS
   .exact q
  | agg cs =>
   obtain⟨l,rfl,h2⟩:=hy;rw[hF.agg];exact⟨l,rfl,bf.fX _ (h2.imp λ u y _ hy=>hC u y hy)⟩
  | dH v =>
   have q:=hC (.dH v) y hy;rw[hF.dH] at q ⊢;exact q
  | _=>exact hy.elim
 | dO f cs =>
  obtain⟨l,rfl,h2⟩:=h;rw[hF.dO];exact⟨l,rfl,bf.fX _ (h2.imp λ u y _ hy=>CR.fx hF hC hS hy)⟩
 | any=>rw[hF.any];trivial
 | _=>exact key h
end
theorem a6s(id:Nat)(u:TV):Fx (AV.J1 id (.aT u)):=⟨λ _=>rfl,λ cs=>by rw[AV.J1,DN],λ cs=>by rw[AV.J1,DN],λ f cs=>by rw[AV.J1,DN],rfl,λ i => .inr rfl,λ _=>rfl⟩
theorem a6r(id:Nat)(u:TV):Fx (AV.GP id (.aT u)):=⟨λ _=>rfl,λ cs=>by rw[AV.GP,DM],λ cs=>by rw[AV.GP,DM],λ f cs=>by rw[AV.GP,DM],rfl,λ i=>by
 simp only[AV.GP];split
 .exact .inl ⟨u,rfl⟩
 .exact .inr rfl,λ _=>rfl⟩
def aG.ib(F:AV->AV):aG->aG
 | .box cs => .box (cs.map F)
 | o=>o
theorem Inv.fix(h:Inv c G s a w)(id:Nat)(F:AV->AV)(hF:Fx F)(B:Nat->Prop)(hB:∀ b,B b->(c.w0.heap.size<=b\/c.X b)/\b<w.heap.size/\(∀ i o,i≠id->s.ah i=some o->gi (G.η i)≠some b)/\∀ i τ xs,i≠id->s.ah i=some (.aD τ xs)->b∉G.φ i)
  (hC:∀ lk',(∀ j,j≠id->gw (s.ah j) (lk' j))->∀ v x,C1 c G s.ah w v x->C1 c ⟨λ b=>G.S b\/B b,G.η,G.φ⟩ lk' w (F v) x) :
  Inv c ⟨λ b=>G.S b\/B b,G.η,G.φ⟩ { aE:=s.aE.map F,aR:=(cf id s.aR).map λ p=>(p.1,p.2.ib F) } a w:=by
 have hS:∀ b,G.S b->G.S b\/B b:=λ b hb => .inl hb;have cY:∀ i,ai.ah { aE:=s.aE.map F,aR:=(cf id s.aR).map λ p=>(p.1,p.2.ib F) } i=(if i=id then none else s.ah i).map (aG.ib F):=by
  intro i;show ah ((cf id s.aR).map _) i=_;rw[Jx,gq];rfl
 have gV:∀ j,j≠id->gw (s.ah j) (ai.ah { aE:=s.aE.map F,aR:=(cf id s.aR).map λ p=>(p.1,p.2.ib F) } j):=by
  intro j hj;rw[cY,b0Y hj];refine⟨λ hh=>?_,λ e τ xs hh=>⟨e,xs,by rw[hh];rfl,b1E _⟩,λ hh=>?_,λ hh=>?_⟩
  .match hq:s.ah j,hh with
   | some (.box cs),_=>rfl
  .match hq:s.ah j,hh with
   | some (.aD τ xs),_=>rfl
  .match hq:s.ah j,hh with
   | some (.map m),_=>rfl
 have hC:=hC _ gV;have hinv:∀ i o,ai.ah { aE:=s.aE.map F,aR:=(cf id s.aR).map λ p=>(p.1,p.2.ib F) } i=some o->i≠id/\∃ o',s.ah i=some o'/\o=o'.ib F:=λ i o cU=>by
  rw[cY] at cU;simp only[b1M] at cU;obtain⟨o',cU,rfl⟩:=cU;by_cases hi:i=id
  .simp[hi] at cU
  .rw[b0Y hi] at cU;exact⟨hi,o',cU,rfl⟩
 exact {
  defers:=h.defers
  size:=by rw[h.size];simp
  bd:=h.bd
  oB:=h.oB
  gh:=λ b hbl hx=>⟨λ hh=>by
   rcases hh with hh|hh
   .exact (h.gh b hbl hx).1 hh
   .exact (hB b hh).1.elim (λ q=>by omega) (λ q=>absurd q hx),λ hh => .inl ((h.gh b hbl hx).2 hh)⟩
  sX:=λ b hh => .inl (h.sX b hh)
  eV:=λ b hh=>by
   rcases hh with hh|hh
   .exact h.eV b hh
   .exact (hB b hh).2.1
  aE:=λ i=>by
   have he:ai.sl { aE:=s.aE.map F,aR:=(cf id s.aR).map λ p=>(p.1,p.2.ib F) } i=F (s.sl i):=by
    simp only[ai.sl,b1f,b2F];cases s.aE[i]? with
    | none=>exact hF.any.symm
    | some v=>rfl
   rw[he];exact VR.fx hF hC hS (h.aE i)
  aR:=λ i o cU=>by
   obtain⟨hi,o',gn,rfl⟩:=hinv i o cU;have dj:=h.aR i o' gn;cases o' with
   | box cs =>
    obtain⟨b,l,t,k1,k2,k3⟩:=dj;exact⟨b,l,t,k1,k2,bf.fX _ (k3.imp λ u y _ hy=>hC u y hy)⟩
   | row e2 pL rJ =>
    obtain⟨l,k1,k2,k3⟩:=dj;exact⟨l,k1,gL.bd hS (λ _ _=>rfl) _ k2,k3⟩
   | aD pL rJ=>trivial
   | map m=>exact dj
  place:=λ i o b cU mh=>by
   obtain⟨hi,o',gn,rfl⟩:=hinv i o cU;obtain⟨q1,q2,q3⟩:=h.place i o' b gn mh;exact⟨q1,λ hs=>hs.elim q2 λ hs=>(hB b hs).2.2.1 i o' hi gn mh,q3⟩
  apart:=λ i j o o2 b cU Mv uC rU=>by
   obtain⟨_,o',gn,rfl⟩:=hinv i o cU;obtain⟨_,o2',a9B,rfl⟩:=hinv j o2 Mv;exact h.apart i j o' o2' b gn a9B uC rU
  aW:=by
   have hold:∀ j pL rJ,ai.ah { aE:=s.aE.map F,aR:=(cf id s.aR).map λ p=>(p.1,p.2.ib F) } j=some (.aD pL rJ)->j≠id/\s.ah j=some (.aD pL rJ):=λ j pL rJ k=>by
    obtain⟨hj,o',Mv,e⟩:=hinv j _ k;refine⟨hj,?_⟩;match o',e with
    | .aD ..,e=>rw[Mv,e];rfl
    | .box _,e=>cases e
    | .row ..,e=>cases e
    | .map _,e=>cases e
   exact {
    tr:=λ j pL rJ k=>h.aW.tr j pL rJ (hold j pL rJ k).2
    nd:=λ j pL rJ k=>h.aW.nd j pL rJ (hold j pL rJ k).2
    pl:=λ j pL rJ b k cO=>by
     obtain⟨hj,k⟩:=hold j pL rJ k;obtain⟨q1,q2,q3,q4⟩:=h.aW.pl j pL rJ b k cO;refine⟨q1,λ hs=>hs.elim q2 λ hs=>(hB b hs).2.2.2 j pL rJ hj k cO,q3,λ i o cU=>?_⟩;obtain⟨_,o',gn,rfl⟩:=hinv i o cU;exact q4 i o' gn
    ap:=λ j j' pL a7G rJ a7F b k k'=>h.aW.ap j j' pL a7G rJ a7F b (hold j pL rJ k).2 (hold j' a7G a7F k').2 }
  root:=λ i v hr ht=>h.root i v hr (by
   match hl:ai.ah { aE:=s.aE.map F,aR:=(cf id s.aR).map λ p=>(p.1,p.2.ib F) } i,ht with
   | some (.aD ..),_ =>
    obtain⟨_,o',cU,e⟩:=hinv i _ hl;match o',e with
    | .aD ..,e=>rw[cU];rfl
    | .box _,e=>cases e
    | .row ..,e=>cases e
    | .map _,e=>cases e)
  mG:=h.mG
  ep:=λ i v hr ht=>h.ep i v hr (by
   match hl:ai.ah { aE:=s.aE.map F,aR:=(cf id s.aR).map λ p=>(p.1,p.2.ib F) } i,ht with
   | some (.box _),_ =>
    obtain⟨_,o',cU,e⟩:=hinv i _ hl;match o',e with
    | .box _,e=>rw[cU];rfl
    | .aD ..,e=>cases e
    | .row ..,e=>cases e
    | .map _,e=>cases e)
  hH:=h.hH }
theorem a3w(id:Nat)(u:AV)(o:aG):o.J1 id u=o.ib (AV.J1 id u):=by
 cases o<;>simp[aG.J1,aG.ib,DN]
theorem a3v(id:Nat)(u:AV)(o:aG):o.GP id u=o.ib (AV.GP id u):=by
 cases o<;>simp[aG.GP,aG.ib,DM]
theorem Inv.freeze(h:Inv c G s a w)(id:Nat):∃ G',Inv c G' (s.freeze id) a w:=by
 unfold ai.freeze;split
 .rename_i e τ xs bm;have ho:=h.aR id _ bm;rw[DN];simp only[a3w];exact⟨_,h.fix id _ (a6s id _) (λ b=>gi (G.η id)=some b) (λ b hb=>by
   obtain⟨q1,_,q3⟩:=h.place id _ b bm hb;exact⟨q1,q3,λ i o hi cU uC=>hi (h.apart i id o _ b cU bm uC hb),λ i τ xs _ k q=>(h.aW.pl i τ xs b k q).2.2.2 id _ bm hb⟩)
   λ lk' hs v x hv=>C1.J1 bm ho (λ _ hb => .inl hb) (λ _ hb => .inr hb) hs hv⟩
 .rename_i τ xs bm;rw[DM];simp only[a3v];exact⟨_,h.fix id _ (a6r id _) (λ b=>b∈G.φ id) (λ b hb=>by
   obtain⟨q1,_,q3,q4⟩:=h.aW.pl id _ _ b bm hb;exact⟨q1,q3,λ i o _ cU=>q4 i o cU,λ i τ xs hi k q=>hi (h.aW.ap i id _ _ _ _ b k bm q hb)⟩)
   λ lk' hs v x hv=>C1.GP bm (h.aW.tr id _ _ bm) (λ _ hb => .inl hb) (λ _ hb => .inr hb) hs hv⟩
 .exact⟨G,h⟩
theorem Inv.HZ:∀ (l:List Nat) {G:Gh} {s:ai},Inv c G s a w->∃ G',Inv c G' (l.foldl ai.freeze s) a w
 | [],G,s,h=>⟨G,h⟩
 | i::r,G,s,h=>by
  obtain⟨G',h'⟩:=h.freeze i;exact Inv.HZ r h'
theorem Jv{lk:Nat->Option aG}{v:AV}{x:Value}{K:Prop}(hv:VR c G lk w v x)(h:known v K):K:=by
 unfold known at h;split at h
 .rename_i n;obtain⟨_,h1,h2⟩:=hv;refine h ⟨?_,?_⟩
  .have:=h1;simp only[IntKind.min,IntKind.signed,IntKind.bits,b2D] at this;omega
  .have:=h2;simp only[IntKind.max,IntKind.signed,IntKind.bits,b2D] at this;omega
 .rename_i t xs;obtain⟨_,_,_,_,h1,_⟩:=oJ hv;exact h h1
 .rename_i xs;obtain⟨s,_,h2,h3⟩:=hv;subst h2;exact h (by rw[b1S];exact h3)
 .exact h
theorem a7J{l:List Operand}{u v:AV}{ev:Operand->AV}(h:l.map ev=[u,v]){lk:Nat->Option aG}(dx:∀ x,VR c G lk w (ev x) (a.eval x)):∃ x y,l.map a.eval=[x,y]/\VR c G lk w u x/\VR c G lk w v y:=by
 have:=bf.tg dx l;rw[h] at this;match hl:l.map a.eval,this with
 | [x,y],hh=>exact⟨x,y,rfl,hh.1,hh.2.1⟩
theorem Lh(hE:bU c.P c.E)(h:Inv c G s a w){o:Oper}{T:TypeId}{m k x:Operand}(bL:o.op = .mapUpdate T m k x\/o.op = .insert T m k x){vc:Vc}{s':ai}(he:TP c.E s o.dst T m k x=some (vc,s'))(fZ:vc.ok){Q:Exit->Act->World->Prop} :
  o.wp c.P a w (λ a' w'=>∃ G',Inv c G' s' a' w') Q:=by
 cases he
theorem a1l(hE:bU c.P c.E)(h:Inv c G s a w){o:Oper}{vc:Vc}{s':ai}(he:YB c.E s o=some (vc,s'))(fZ:vc.ok){Q:Exit->Act->World->Prop} :
  o.wp c.P a w (λ a' w'=>∃ G',Inv c G' s' a' w') Q:=by
 unfold YB at he;split at he
 .rename_i bL;exact Lh hE h (.inl bL) he fZ
 .rename_i bL;exact Lh hE h (.inr bL) he fZ
 .rename_i T ad x bL;split at he
  .rename_i τ r hT;have hp:=bI h ad;have hx:=bI h x;have fin:∀ w' G1 (s1:ai),(Instr.storeAt T (a.eval ad) (a.eval x)).run c.P w = .ok () w'->Inv c G1 s1 a w'->s'=s1.put o.dst .any->o.wp c.P a w (λ a' w'=>∃ G',Inv c G' s' a' w') Q:=by
    intro w' G1 s1 hr hi hs;unfold Oper.wp;have:(execOp a.eval o).run c.P w = .ok .skip w':=by simp only[execOp,bL,Sem.run_bind,hr,Result.andThen_ok,Sem.run_pure]
    rw[this];refine⟨G1,?_⟩;rw[hs];exact Inv.put hi trivial
   split at he
   .rename_i id off dx;split at he
    .rename_i cs bm;split at he
     .rename_i new vx;split at he
      .rename_i eJ DX;simp only[b0L,b0O] at he;obtain⟨rfl,rfl⟩:=he;rw[dx] at hp;obtain⟨w',k1,k2⟩:=h.store hE hT bm hp ⟨_,vx,hx⟩ DX;exact fin w' _ _ k1 k2 rfl
      .cases he
     .cases he
    .cases he
   .rename_i id i dx;split at he
    .rename_i e' bw xs bm;split at he
     .rename_i y nH hy;have nH:=b1z nH;subst nH;simp only[b0L,b0O] at he;obtain⟨rfl,rfl⟩:=he;rw[dx] at hp;obtain⟨w',k1,k2⟩:=h.a3X hE hT bm hp hx hy;exact fin w' _ _ k1 k2 rfl
     .cases he
    .cases he
   .cases he
  .cases he
 .rename_i cl bL;split at he
  .rename_i kR;split at he
   .rename_i d T T' hd YL;split at he
    .rename_i τ b e UW hT;have UW:=b0P UW;subst UW;split at he
     .rename_i id y eU;split at he
      .rename_i e' bw xs ys bm hy;split at he
       .rename_i dw DT pX;have DT:=b0P DT;have e1:=TV.bj pX;cases e1;subst DT;simp only[b0L,b0O] at he;obtain⟨rfl,rfl⟩:=he;obtain⟨x,z,m1,m2,m3⟩:=a7J (a:=a) (c:=c) (G:=G) (w:=w) eU (bI h);obtain⟨v',w',G',k1,k2⟩:=h.append hE hT (d:=d) bm m2 m3 hy fZ o.type;have OB:cl.argTypes = #[T,T]:=by rw[<-b1U (xs:=cl.argTypes),YL]
        have Ii:cl.args.map a.eval = #[x,z]:=by rw[<-b1U (xs:=cl.args.map a.eval),b2K,m1]
        unfold Oper.wp;have:(execOp a.eval o).run c.P w = .ok (.value v') w':=by
         simp[execOp,bL,resolve,kR,invoke,builtin,OB,Ii,k1]
        rw[this];refine⟨G',?_⟩;rw[hd];exact k2
       .cases he
      .cases he
     .cases he
    .cases he
   .cases he
  .cases he
 .cases he
theorem a1O(hE:bU c.P c.E)(h:Inv c G s a w){o0:Oper}{vc:Vc}{v:AV}{ob:Option aG}(he:Zf c.E s o0=some (vc,v,ob))(fZ:vc.ok){Q:Exit->Act->World->Prop} :
  o0.wp c.P a w (Bg c G s.sl s.aE.length s.ah o0.dst a w v ob) Q:=by
 unfold Zf at he;split at he;case h_2=>cases he
 case h_1 cl bL =>
 split at he;case h_2=>cases he
 case h_1 f kR =>
 split at he;case h_2=>cases he
 case h_1 d hd =>
 split at he;case h_2=>cases he
 case h_1 Z9 has =>
 have key:∀ (T:Nat->Prop),(∀ x∈cl.args.toList.map a.eval,∀ q:Addr,x = .pointer (some q)->T q.block)->∀ pre o,c.E.VG f Z9=some (pre,o)->pre.ok->o0.wp c.P a w (λ a' w'=>∃ x S',a'=a.put o0.dst x/\bH c ⟨S',G.η,G.φ⟩ s.sl s.aE.length s.ah a w' /\
   (∀ b,G.S b->S' b)/\(∀ b,gi x=some b->w.heap.size<=b/\b<w'.heap.size/\¬ S' b)/\a4j w' S' T x o) Q:=λ T hT pre o hc fZ=>by
  obtain⟨rV,mM⟩:=hE.VG f Z9 pre o hc fZ;unfold Oper.wp;rw[lp bL kR rfl rV];simp only[Oper.upon];refine (mM w G.S T _ h.sOk hT (l7 hE h (Fo (λ _ _ h=>h)) (λ _ h=>h) (λ τ v x y h1 h2=>Dk Fp Ch h1 h2) has (bf.tg (bI h) _))).mono ?_;rintro e w' ⟨x,S',rfl,hk,hS1,hS2,hb,hx⟩;exact⟨x,S',rfl,bH.grow h hk hS1 hS2,λ b hb=>(hS1 b (h.eV b hb)).2 hb,hb,hx⟩
 split at he;case h_4=>cases he
 case h_3 pre l hc =>
  split at he;case h_2=>cases he
  case h_1 cI =>
  simp only[b0L,b0O] at he;obtain⟨rfl,rfl,rfl⟩:=he;refine b2q ?_ (key (St c G.S) (λ x hx q hq=>?_) _ _ hc fZ)
  .rintro a' w' ⟨x,S',rfl,hI,hS,hb,ys,rfl,QE⟩;refine⟨_,S',rfl,hI,ys.toArray.toList,rfl,bf.fX _ (QE.imp λ r y _ hy=>?_)⟩;obtain⟨bb,v⟩:=r;cases bb with
   | true =>
    obtain⟨b,o,cs,h1,h2,h3,h4⟩:=hy;exact⟨b,o,cs,h1,h2.elim .inl λ h2=>h2.imp (hS b) id,h3,h4⟩
   | false=>exact hy
  .obtain⟨y,hy,rfl⟩:=b0S.1 hx;have h1:=b1L.1 cI _ (b0S.2 ⟨y,hy,rfl⟩);have h2:=bI h y;generalize s.eval y=v at h1 h2;rw[hq] at h2;cases v with
   | dH u=>obtain⟨b,o,cs,e,h3,_⟩:=h2;cases e;exact h3
   | aT u =>
    obtain⟨τ,z⟩:=u;cases τ with
    | int k=>obtain⟨e,_⟩:=h2;cases e
    | bool=>have e:[Value.pointer (some q)]=[.bool z]:=h2;cases e
    | str=>obtain⟨_,e,_⟩:=h2;cases e
    | slice t=>obtain⟨_,_,e,_⟩:=h2;cases e
    | st s=>obtain⟨_,e,_⟩:=h2;cases e
    | mv t=>cases z with
     | none=>obtain⟨_,_,_,e⟩:=h2;cases e
     | some z=>obtain⟨_,_,e,_⟩:=h2;cases e
    | ptr=>cases h1
   | _=>cases h1
 case h_1 pre cells hc =>
  simp only[b0L,b0O] at he;obtain⟨rfl,rfl,rfl⟩:=he;refine b2q ?_ (key (λ _=>True) (λ _ _ _ _=>trivial) _ _ hc fZ);rintro a' w' ⟨x,S',rfl,hI,_,hb,b,l,t,rfl,hh,oR⟩;exact⟨_,S',rfl,hI,⟨d,hd,rfl⟩,⟨b,l,t,rfl,hh,bf.fX _ (oR.imp λ u y _ hy=>hy)⟩,hb⟩
 case h_2 pre e τ xs hc =>
  simp only[b0L,b0O] at he;obtain⟨rfl,rfl,rfl⟩:=he;refine b2q ?_ (key (λ _=>True) (λ _ _ _ _=>trivial) _ _ hc fZ);rintro a' w' ⟨x,S',rfl,hI,_,hb,l,h1,h2,h3⟩;exact⟨_,S',rfl,hI,⟨d,hd,rfl⟩,⟨l,h1,h2,h3⟩,hb⟩
theorem Pw(hE:bU c.P c.E)(h:Inv c G s a w){o:Oper}{K:ai->Prop}(hr:p8 c.E o K s){Q:Exit->Act->World->Prop} :
  o.wp c.P a w (λ a' w'=>∃ G' s',Inv c G' s' a' w'/\K s') Q:=by
 unfold p8 at hr;split at hr
 .exact hr.elim
 rename_i Mp;obtain⟨G1,h1⟩:=h.HZ (pU c.E s o);generalize (pU c.E s o).foldl ai.freeze s=s1 at *
 simp only at hr;split at hr
 .rename_i vc s' he;exact b2q (λ a' w' ⟨G',hg⟩=>⟨G',s',hg,(Vc.oM hr).2⟩) (a2b hE h1 he (Vc.oM hr).1)
 split at hr
 .rename_i vc s' he;exact b2q (λ a' w' ⟨G',hg⟩=>⟨G',s',hg,(Vc.oM hr).2⟩) (a1g hE h1 he (Vc.oM hr).1)
 split at hr
 .rename_i vc s' he;exact b2q (λ a' w' ⟨G',hg⟩=>⟨G',s',hg,(Vc.oM hr).2⟩) (a1l hE h1 he (Vc.oM hr).1)
 .split at hr
  .rename_i vc s' he;exact b2q (λ a' w' ⟨G',hg⟩=>⟨G',s',hg,(Vc.oM hr).2⟩) (a1S hE h1 he (Vc.oM hr).1)
  split at hr
  .rename_i vc v ob he;refine b2q ?_ (a1O hE h1 he (Vc.oM hr).1);intro a' w' hd;obtain⟨G',hl⟩:=Vr h1 Mp hd;exact⟨G',_,hl,(Vc.oM hr).2⟩
  .split at hr
   .rename_i vc v ob hq;obtain⟨fZ,hk⟩:=Vc.oM hr;refine b2q ?_ (MZ hE h1 (λ _ _ h=>h) (bI h1) hq fZ);intro a' w' hd;obtain⟨G',hl⟩:=Vr h1 Mp hd;refine⟨G',_,hl,?_⟩;split at hk
    .obtain⟨x,S',_,_,hx⟩:=hd;cases ob with
     | none=>exact Jv hx hk
     | some ob =>
      obtain⟨hL,_⟩:=hx;cases ob with
      | box cs=>obtain⟨i,_,rfl⟩:=hL;exact hk
      | row e τ xs=>obtain⟨i,_,rfl⟩:=hL;exact hk
      | aD τ xs=>exact hL.elim
      | map m=>obtain⟨i,_,rfl⟩:=hL;exact hk
    .exact hk
   .exact hr.elim
theorem a1s{t:Array Value}{i:Nat}{b:Bool}(h:t.getD i undef = .bool b):t[i]?=some (.bool b):=by
 rw[b1I] at h;cases hx:t[i]? with
 | none=>rw[hx] at h;simp[undef] at h
 | some v=>rw[hx] at h;simpa using h
theorem Ml{ops:Array Oper}{g t:Nat}{b:Bool}(ht:zL ops g=some t)(hx:VR c G s.ah w (.aT ⟨.bool,b⟩) (a.eval (.tmp t))):yielded ops a.tmps g=some b:=by
 have hb:[a.eval (.tmp t)]=[.bool b]:=hx;simp only[List.cons.injEq,and_true] at hb;have:=a1s hb;unfold yielded;rw[show (ops[g]?).bind (·.dst)=some t from ht];simp[this]
theorem H7{ops:Array Oper}{g t:Nat}(ht:zL ops g=some t)(hx:VR c G s.ah w .fO (a.eval (.tmp t))):yielded ops a.tmps g=none:=by
 have hb:a.eval (.tmp t)=undef:=hx;have hb:a.tmps.getD t undef=undef:=hb;unfold yielded;rw[show (ops[g]?).bind (·.dst)=some t from ht];rw[Array.getD_eq_getD_getElem?] at hb;cases hx:a.tmps[t]? with
 | none=>simp[hx]
 | some v =>
  rw[hx] at hb;have hv:v=undef:=hb;subst hv;simp[hx,undef]
theorem Inv.slot(h:Inv c G s a w)(t:Nat){b b':Bool}(he:s.eval (.tmp t) = .aT ⟨.bool,b⟩)(hb:b=b'):Inv c G (s.put (some t) (.aT ⟨.bool,b'⟩)) a w:=by
 have:s.put (some t) (.aT ⟨.bool,b'⟩)=s\/(s.put (some t) (.aT ⟨.bool,b'⟩)).sl=s.sl:=by
  right;rw[a3b];funext i;unfold oK;split
  .rename_i hi;obtain⟨h1,h2⟩:=hi;simp only[b0L] at h1;subst h1;rw[<-hb,<-he];rfl
  .rfl
 rcases this with e|e
 .rw[e];exact h
 .unfold Inv;rw[e,XV,Sl];exact h
theorem EO(hE:bU c.P c.E){ops:Array Oper}{Q:ai->Prop}{o:Oper}{r:List Oper}{kn:List (Nat×Bool)}(h:Inv c G s a w)(hr:iA c.E ops (o::r) kn Q s) :
  if Region.wanted o (yielded ops a.tmps)=true then ∀ Q':Exit->Act->World->Prop,o.wp c.P a w (λ a' w'=>∃ G' s' tp,Inv c G' s' a' w'/\iA c.E ops r tp Q s') Q'
  else ∃ G' s' tp,Inv c G' s' (a.put o.dst undef) w/\iA c.E ops r tp Q s':=by
 have run:∀ (kn:List (Nat×Bool)) (s:ai),Inv c G s a w->p8 c.E o (iA c.E ops r kn Q) s->∀ Q':Exit->Act->World->Prop,o.wp c.P a w (λ a' w'=>∃ G' s' tp,Inv c G' s' a' w'/\iA c.E ops r tp Q s') Q':=λ kn s hs c9 Q' =>
  b2q (λ a' w' ⟨G',s',h1,h2⟩=>⟨G',s',kn,h1,h2⟩) (Pw hE hs c9)
 have skip:∀ (kn:List (Nat×Bool)) (s:ai),Inv c G s a w->iA c.E ops r kn Q (s.put o.dst .fO)->∃ G' s' tp,Inv c G' s' (a.put o.dst undef) w/\iA c.E ops r tp Q s':=λ kn s hs hk =>
  ⟨G,_,kn,Inv.put (v := .fO) hs rfl,hk⟩
 simp only[iA] at hr;split at hr
 .rename_i hg;have hw:Region.wanted o (yielded ops a.tmps)=true:=by simp[Region.wanted,hg]
  rw[b1q hw];exact run kn s h hr
 .rename_i g want hg;split at hr
  .exact hr.elim
  .rename_i t ht;split at hr
   .rename_i b hb;split at hr
    .rename_i b' dx;have hx:=bI h (.tmp t);rw[dx] at hx;have hy:=Ml (s:=s) ht hx;split at hr
     .rename_i mh Mo;have mh:=eq_of_beq mh;subst mh;have hw:Region.wanted o (yielded ops a.tmps)=true:=by simp[Region.wanted,hg,hy];simpa using Mo
      rw[b1q hw];exact run kn s h hr
     .rename_i mh Mo;have mh:=eq_of_beq mh;subst mh;have hw:Region.wanted o (yielded ops a.tmps)=false:=by simp[Region.wanted,hg,hy];simpa using Mo
      rw[hw];exact skip kn s h hr
     .exact hr.elim
    .rename_i dx;have hx:=bI h (.tmp t);rw[dx] at hx;have hy:=H7 (s:=s) ht hx;have hw:Region.wanted o (yielded ops a.tmps)=false:=by simp[Region.wanted,hg,hy]
     rw[hw];exact skip kn s h hr
    .exact hr.elim
   .split at hr
    .rename_i b dx;have hx:=bI h (.tmp t);rw[dx] at hx;have hy:=Ml (s:=s) ht hx;by_cases Mo:b=want
     .have hw:Region.wanted o (yielded ops a.tmps)=true:=by simp[Region.wanted,hg,hy,Mo]
      rw[b1q hw];exact run _ _ (h.slot t dx Mo) (hr.1 Mo)
     .have WO:b = !want:=by cases b<;>cases want<;>simp_all
      have hw:Region.wanted o (yielded ops a.tmps)=false:=by simp[Region.wanted,hg,hy,WO]
      rw[hw];exact skip _ _ (h.slot t dx WO) (hr.2 WO)
    .rename_i dx;have hx:=bI h (.tmp t);rw[dx] at hx;have hy:=H7 (s:=s) ht hx;have hw:Region.wanted o (yielded ops a.tmps)=false:=by simp[Region.wanted,hg,hy]
     rw[hw];exact skip kn s h hr
    .exact hr.elim
theorem Ct(hE:bU c.P c.E){ops:Array Oper}{Q:ai->Prop}{Q':Exit->Act->World->Prop}(hQ:∀ G s a w,Inv c G s a w->Q s->Q' .normal a w) :
  ∀ (r:List Oper) (i:Nat) (kn:List (Nat×Bool)) (G:Gh) (s:ai) (a:Act) (w:World),(∀ j o,r[j]?=some o->ops[i+j]?=some o)->Inv c G s a w->iA c.E ops r kn Q s->wpOps c.P ops Q' (List.range' i r.length) a w
 | [],i,kn,G,s,a,w,_,h,hr=>hQ G s a w h hr
 | o::r,i,kn,G,s,a,w,a7v,h,hr=>by
  have ho:ops[i]?=some o:=a7v 0 o rfl;have zP:∀ j p,r[j]?=some p->ops[i+1+j]?=some p:=λ j p hj=>by
   have:=a7v (j+1) p (by simpa using hj);rwa [show i+(j+1)=i+1+j by omega] at this
  simp only[b0Z,List.range'_succ,wpOps,ho];have pW:=EO hE h hr;split at pW
  .rename_i hw;rw[b1q hw];exact .inl (b2q (λ a' w' ⟨G',s',tp,h1,h2⟩=>Ct hE hQ r (i+1) tp G' s' a' w' zP h1 h2) (pW Q'))
  .rename_i hw;rw[b0Y hw];obtain⟨G',s',tp,h1,h2⟩:=pW;exact Ct hE hQ r (i+1) tp G' s' _ w zP h1 h2
end
structure Qa where
 Kz:Bool
 v:AV
 ob:Option aG
def GV(want Kz:Bool):AV->Prop
 | .aT ⟨.bool,b⟩=>Kz=(b == want)
 | .fO=>Kz=false
 | _=>False
def jN(l:List Oper)(bits:Nat)(s:ai)(o:Oper)(Kz:Bool):Prop :=
 match o.guard with
 | none=>Kz=true
 | some (g,want)=>∃ t v,cS l g=some t/\Nat.testBit bits g=true/\s.eval (.tmp t)=v/\GV want Kz v
def T3(E:Env)(l:List Oper)(m bits:Nat)(s:ai)(o:Oper)(e:Qa):Prop :=
 jN l bits s o e.Kz/\(e.Kz=true->∃ vc:Vc,MY E (S6 l m bits s) (WK l m bits s) o=some (vc,e.v,e.ob)/\vc.ok)/\(e.Kz=false->e.v = .fO/\e.ob=none)
def Trace(E:Env)(l:List Oper)(m:Nat)(cD:List Nat):Nat->List Oper->List Qa->ai->ai->Prop
 | _,[],[],s,s'=>s=s'
 | i,o::r,e::es,s,s'=>T3 E l m (cD.getD i 0) s o e/\Trace E l m cD (i+1) r es (s.od o.dst e.v e.ob) s'
 | _,_,_,_,_=>False
def X7{s:ai}{t:Nat}{v:AV}(h:s.eval (.tmp t)=v)(hv:v ≠ .any):s.put (some t) v=s:=by
 have bX:t<s.aE.length:=by
  rcases b1R t s.aE.length with hl|hl
  .exact hl
  .simp only[ai.eval,b1f,b2X hl,Option.getD_none] at h;exact absurd h.symm hv
 simp only[ai.eval,b1f,b1p bX,b4l] at h;simp only[ai.put];congr 1;subst h;exact List.set_getElem_self bX
def QJ(s:ai)(d:Option Nat):s.od d .fO none=s.put d .fO:=by cases d<;>rfl
def wz{E:Env}{l:List Oper}{m:Nat}{cD:List Nat}{Q:List (Nat×Bool)->ai->Prop}:∀ {r:List Oper} {i:Nat} {kn:List (Nat×Bool)} {s:ai},rj E l m cD i r kn Q s ->
  ∃ es tp s',Trace E l m cD i r es s s'/\Q tp s'
 | [],i,kn,s,h=>⟨[],kn,s,rfl,h⟩
 | o::r,i,kn,s,h=>by
  have run:∀ kn,jN l (cD.getD i 0) s o true->Px E l m (cD.getD i 0) o (rj E l m cD (i+1) r kn Q) s->∃ es tp s',Trace E l m cD i (o::r) es s s'/\Q tp s':=by
   intro kn hg hr;unfold Px at hr;split at hr
   .split at hr
    .rename_i vc v ob hq;obtain⟨es,tp,s',h1,h2⟩:=wz (Vc.oM hr).2;exact⟨⟨true,v,ob⟩::es,tp,s',⟨⟨hg,λ _=>⟨vc,hq,(Vc.oM hr).1⟩,λ h=>(by cases h)⟩,h1⟩,h2⟩
    .exact hr.elim
   .exact hr.elim
  have skip:∀ kn,jN l (cD.getD i 0) s o false->rj E l m cD (i+1) r kn Q (s.put o.dst .fO)->∃ es tp s',Trace E l m cD i (o::r) es s s'/\Q tp s':=by
   intro kn hg hr;obtain⟨es,tp,s',h1,h2⟩:=wz hr;exact⟨⟨false, .fO,none⟩::es,tp,s',⟨⟨hg,λ h=>(by cases h),λ _=>⟨rfl,rfl⟩⟩,by rw[QJ];exact h1⟩,h2⟩
  simp only[rj] at h;split at h
  .rename_i hg;exact run kn (by simp[jN,hg]) h
  .rename_i g want hg;split at h
   .rename_i t ht XK;split at h
    .rename_i b hb;split at h
     .rename_i b' dx;split at h
      .rename_i mh Mo;have mh:=eq_of_beq mh;subst mh;exact run kn (by simp only[jN,hg];exact⟨t,_,ht,XK,dx,Mo.symm⟩) h
      .rename_i mh Mo;have mh:=eq_of_beq mh;subst mh;exact skip kn (by simp only[jN,hg];exact⟨t,_,ht,XK,dx,Mo.symm⟩) h
      .exact h.elim
     .rename_i dx;exact skip kn (by simp only[jN,hg];exact⟨t,_,ht,XK,dx,rfl⟩) h
     .exact h.elim
    .split at h
     .rename_i b dx;by_cases Mo:b=want
      .have h':=h.1 Mo;subst Mo;rw[X7 dx (by simp)] at h';exact run _ (by simp only[jN,hg];exact⟨t,_,ht,XK,dx,by simp[GV]⟩) h'
      .have WO:b = !want:=by cases b<;>cases want<;>simp_all
       have h':=h.2 WO;rw[<-WO,X7 dx (by simp)] at h';exact skip _ (by simp only[jN,hg];exact⟨t,_,ht,XK,dx,by simpa [GV] using Mo⟩) h'
     .rename_i dx;exact skip kn (by simp only[jN,hg];exact⟨t,_,ht,XK,dx,rfl⟩) h
     .exact h.elim
   .exact h.elim
def fk(l:List Oper)(es:List Qa)(s0:ai)(π:List Nat):ai :=
 π.foldl (λ s k=>s.od (cS l k) (es.getD k ⟨false, .any,none⟩).v (es.getD k ⟨false, .any,none⟩).ob) s0
def QK(s:ai)(d:Option Nat)(v:AV)(o:Option aG):(s.od d v o).aE.length=s.aE.length:=by cases d<;>simp[ai.od]
def OZ(l:List Oper)(es:List Qa):∀ (π:List Nat) (s0:ai),(fk l es s0 π).aE.length=s0.aE.length
 | [],_=>rfl
 | k::π,s0=>by
  show (fk l es (s0.od _ _ _) π).aE.length=_;rw[OZ l es π,QK]
def Pz(s:ai)(d:Option Nat)(v:AV)(o:Option aG):(s.od d v o).sl=oK s.aE.length s.sl d v:=by
 cases d with
 | none=>funext i;simp[ai.od,oK]
 | some d=>exact vl s.aE d v _
def Fk(s:ai)(d:Option Nat)(v:AV)(o:Option aG)(j:Nat):(s.od d v o).ah j=if d=some j then (match o with
  | some o=>some o
  | none=>s.ah j) else s.ah j:=by
 cases d with
 | none=>simp[ai.od]
 | some d =>
  cases o with
  | none =>
   simp only[ai.od,ai.ah,ite_self]
  | some o =>
   show ah ((d,o)::s.aR) j=_;rw[eK];by_cases h:j=d
   .subst h;simp
   .have:¬ (some d=some j):=by simp;exact λ e=>h e.symm
    rw[b0Y h,b0Y this];rfl
def kh(l:List Oper)(es:List Qa)(t:Nat):∀ (π:List Nat) (s0:ai),(∀ k∈π,cS l k≠some t)->(fk l es s0 π).sl t=s0.sl t/\(fk l es s0 π).ah t=s0.ah t
 | [],_,_=>⟨rfl,rfl⟩
 | k::π,s0,h=>by
  obtain⟨h1,h2⟩:=kh l es t π (s0.od (cS l k) (es.getD k ⟨false, .any,none⟩).v (es.getD k ⟨false, .any,none⟩).ob) (λ j hj=>h j (by simp[hj]));have hk:=h k (by simp);constructor
  .show (fk l es (s0.od _ _ _) π).sl t=_;rw[h1,Pz,oK,b0Y (λ hh=>hk hh.1)]
  .show (fk l es (s0.od _ _ _) π).ah t=_;rw[h2,Fk,b0Y hk]
def AM(l:List Oper)(es:List Qa)(t k:Nat)(hk:cS l k=some t):∀ (π:List Nat) (s0:ai),k∈π->π.Nodup->(∀ j∈π,j≠k->cS l j≠some t) ->
  (fk l es s0 π).sl t=(if t<s0.aE.length then (es.getD k ⟨false, .any,none⟩).v else s0.sl t) /\
  (fk l es s0 π).ah t=(match (es.getD k ⟨false, .any,none⟩).ob with
   | some o=>some o
   | none=>s0.ah t)
 | [],_,h,_,_=>by simp at h
 | j::π,s0,h,hn,ho=>by
  have CI:=b1G.1 hn;by_cases hj:j=k
  .subst hj;obtain⟨h1,h2⟩:=kh l es t π (s0.od (cS l j) (es.getD j ⟨false, .any,none⟩).v (es.getD j ⟨false, .any,none⟩).ob) (λ i hi=>ho i (by simp[hi]) (λ e=>by subst e;exact CI.1 hi));constructor
   .show (fk l es (s0.od _ _ _) π).sl t=_;rw[h1,Pz,oK];simp[hk]
   .show (fk l es (s0.od _ _ _) π).ah t=_;rw[h2,Fk,b1q hk]
  .have OL:=ho j (by simp) hj;obtain⟨h1,h2⟩:=AM l es t k hk π (s0.od (cS l j) (es.getD j ⟨false, .any,none⟩).v (es.getD j ⟨false, .any,none⟩).ob) (by simpa [Ne.symm hj] using h) CI.2 (λ i hi=>ho i (by simp[hi]));constructor
   .show (fk l es (s0.od _ _ _) π).sl t=_;rw[h1,QK,Pz,oK,b0Y (c:=cS l j=some t/\_) (λ hh=>OL hh.1)]
   .show (fk l es (s0.od _ _ _) π).ah t=_;rw[h2];split
    .rfl
    .rw[Fk,b0Y OL]
def Wc{l:List Oper}{es:List Qa}{m bits:Nat}{s0:ai}{π π':List Nat}(uE:∀ j k t,j<m->k<m->cS l j=some t->cS l k=some t->j=k)
  (hπ:∀ k∈π,k<m) (Vk:∀ k∈π',k<m) (hn:π.Nodup) (CI:π'.Nodup) (ha:∀ k,k<m->Nat.testBit bits k=true->k∈π/\k∈π') (t:Nat) (hh:hidden l m bits t=false) :
  (fk l es s0 π).sl t=(fk l es s0 π').sl t/\(fk l es s0 π).ah t=(fk l es s0 π').ah t:=by
 by_cases hex:∃ k,k<m/\cS l k=some t
 .obtain⟨k,hk,hd⟩:=hex;have hb:Nat.testBit bits k=true:=by
   have:=hh;unfold hidden at this;rw[List.any_eq_false] at this;have:=this k (by simpa using hk);simp only[hd] at this;simp only[Nat.beq_refl] at this;simpa using this
  obtain⟨h1,h2⟩:=ha k hk hb;obtain⟨e1,e2⟩:=AM l es t k hd π s0 h1 hn (λ j hj gU GW=>gU (uE j k t (hπ j hj) hk GW hd));obtain⟨e3,e4⟩:=AM l es t k hd π' s0 h2 CI (λ j hj gU GW=>gU (uE j k t (Vk j hj) hk GW hd));exact⟨e1.trans e3.symm,e2.trans e4.symm⟩
 .have lH:∀ k,k<m->cS l k≠some t:=λ k hk hd=>hex ⟨k,hk,hd⟩;obtain⟨e1,e2⟩:=kh l es t π s0 (λ k hk=>lH k (hπ k hk));obtain⟨e3,e4⟩:=kh l es t π' s0 (λ k hk=>lH k (Vk k hk));exact⟨e1.trans e3.symm,e2.trans e4.symm⟩
def I9(acc:List Nat)(k:Nat):∀ (es:List Edge) (s:Nat),Nat.testBit (es.foldl (y9 acc) s) k=true->Nat.testBit s k=true\/∃ e∈es,Region.binds .any e=true/\(k=e.on\/Nat.testBit (acc.getD e.on 0) k=true)
 | [],s,h => .inl h
 | e::es,s,h=>by
  simp only[b3N] at h;rcases I9 acc k es _ h with h|⟨e',DT,h⟩
  .unfold y9 at h;split at h
   .rename_i hb;simp only[Nat.testBit_or,b2y] at h;rcases h with h|h|h
    .exact .inl h
    .refine .inr ⟨e,by simp,hb, .inl ?_⟩;rw[Nat.one_shiftLeft,Nat.testBit_two_pow] at h;exact (b1z h).symm
    .exact .inr ⟨e,by simp,hb, .inr h⟩
   .exact .inl h
  .exact .inr ⟨e',by simp[DT],h⟩
def Bi:∀ (l:List Oper) (acc:List Nat),∃ r,cq l acc=acc++r/\r.length=l.length /\
  ∀ i o,l[i]?=some o->∀ k,Nat.testBit ((acc++r).getD (acc.length+i) 0) k=true->∃ e∈o.after.toList,Region.binds .any e=true/\(k=e.on\/(e.on<acc.length+i/\Nat.testBit ((acc++r).getD e.on 0) k=true))
 | [],acc=>⟨[],by simp[cq],rfl,by simp⟩
 | o::l,acc=>by
  simp only[cq];obtain⟨r,h1,h2,h3⟩:=Bi l (acc++[o.after.toList.foldl (y9 acc) 0]);refine⟨_::r,by rw[h1,b1P];rfl,by simp[h2],λ i p hp k hk=>?_⟩;cases i with
  | zero =>
   simp at hp;subst hp;have qp:Nat.testBit (o.after.toList.foldl (y9 acc) 0) k=true:=by
    simpa [List.getD_eq_getElem?_getD] using hk
   rcases I9 acc k _ 0 qp with h|⟨e,he,hb,h⟩
   .simp at h
   .refine⟨e,he,hb,h.imp id λ h=>?_⟩;have bX:e.on<acc.length:=by
     rcases b1R e.on acc.length with hl|hl
     .exact hl
     .simp[b1f,b2X hl] at h
    refine⟨by omega,?_⟩;rw[b1f,b2N bX,<-b1f];exact h
  | succ i =>
   have:=h3 i p (by simpa using hp) k (by
    have e1:(acc++[o.after.toList.foldl (y9 acc) 0]).length+i=acc.length+(i+1):=by simp;omega
    rw[e1,b1P];exact hk)
   obtain⟨e,he,hb,h⟩:=this;refine⟨e,he,hb,h.imp id λ ⟨h1,h2⟩=>⟨by simp at h1;omega,?_⟩⟩;rw[b1P] at h2;exact h2
def C5:∀ (l:List Nat) (i m0:Nat),m0<=i->sH l i m0<=i+l.length/\m0<=sH l i m0/\∀ j b,l[j]?=some b->sH l i m0<=i+j->b+1=2 ^ (i+j)
 | [],i,m0,h=>by simp[sH];exact h
 | b::l,i,m0,h=>by
  simp only[sH];split
  .rename_i hb;have hb:=b0P hb;obtain⟨h1,h2,h3⟩:=C5 l (i+1) m0 (by omega);refine⟨by simp;omega,h2,λ j b' hj hle=>?_⟩;cases j with
   | zero=>simp at hj;subst hj;exact hb
   | succ j=>rw[show i+(j+1)=i+1+j by omega];exact h3 j b' (by simpa using hj) (by omega)
  .obtain⟨h1,h2,h3⟩:=C5 l (i+1) (i+1) (b1E _);refine⟨by simp;omega,by omega,λ j b' hj hle=>?_⟩;cases j with
   | zero=>omega
   | succ j=>rw[show i+(j+1)=i+1+j by omega];exact h3 j b' (by simpa using hj) (by omega)
theorem zf(l:List Oper)(es:List Qa)(s0:ai)(π:List Nat)(i:Nat):fk l es s0 (π++[i])=(fk l es s0 π).od (cS l i) (es.getD i ⟨false, .any,none⟩).v (es.getD i ⟨false, .any,none⟩).ob:=by
 simp[fk,List.foldl_append]
theorem Yg{E:Env}{l:List Oper}{m:Nat}{cD:List Nat}{s0:ai}:∀ (r:List Oper) (i:Nat) (es CC:List Qa) (s s':ai),Trace E l m cD i r es s s'->(∀ j o,r[j]?=some o->l[i+j]?=some o)->CC.length=i ->
  s=fk l (CC++es) s0 (List.range i) ->
  (∀ j o,r[j]?=some o->T3 E l m (cD.getD (i+j) 0) (fk l (CC++es) s0 (List.range (i+j))) o ((CC++es).getD (i+j) ⟨false, .any,none⟩))/\s'=fk l (CC++es) s0 (List.range (i+r.length))
 | [],i,[],CC,s,s',h,_,_,hs=>by
  have h:s=s':=h;subst h;exact⟨by simp,by simpa using hs⟩
 | o::r,i,e::es,CC,s,s',h,hl,h0,hs=>by
  obtain⟨h1,h2⟩:=h;have ho:l[i]?=some o:=hl 0 o rfl;have a0d:(CC++e::es).getD i ⟨false, .any,none⟩=e:=by simp[b1f,<-h0]
  have cI:s.od o.dst e.v e.ob=fk l ((CC++[e])++es) s0 (List.range (i+1)):=by
   rw[b1P,List.range_succ,zf,b3l,a0d,<-hs];simp[cS,ho]
  have ih:=Yg r (i+1) es (CC++[e]) _ s' h2 (λ j p hj=>by
   have:=hl (j+1) p (by simpa using hj);rwa [show i+(j+1)=i+1+j by omega] at this) (by simp[h0]) cI
  rw[b1P,b3l] at ih;refine⟨λ j p hj=>?_,by rw[ih.2];congr 2;simp;omega⟩;cases j with
  | zero =>
   simp at hj;subst hj;rw[b2I,a0d,<-hs];exact h1
  | succ j =>
   have:=ih.1 j p (by simpa using hj);rwa [show i+1+j=i+(j+1) by omega] at this
 | [],_,_::_,_,_,_,h,_,_,_=>h.elim
 | _::_,_,[],_,_,_,h,_,_,_=>h.elim
theorem ze:∀ (m:Nat) (π:List Nat),π.Nodup->(∀ k∈π,k<m)->π.length<=m
 | 0,π,_,h=>by
  cases π with
  | nil=>simp
  | cons k r=>exact absurd (h k (by simp)) (by omega)
 | m+1,π,hn,h=>by
  by_cases hm:m∈π
  .have h1:=ze m (π.erase m) (hn.erase m) (λ k hk=>by
    have h2:=(hn.mem_erase_iff).1 hk;have:=h k h2.2;have:=h2.1;omega)
   have h3:=b2Q hm;have:0<π.length:=b2V hm;omega
  .have:=ze m π hn (λ k hk=>by
    have:=h k hk;have:k≠m:=λ e=>by subst e;exact hm hk
    omega)
   omega
section
variable {c:Ctx} {G:Gh} {s:ai} {a:Act} {w w':World}
theorem C1.fL{lk:Nat->Option aG}{v:AV}{x:Value}(h:C1 c G lk w v x){d:Nat}(hr:v.refs d=true):lk d≠none:=by
 cases v with
 | ptr i o =>
  have:=b0P (show Nat.beq i d=true from hr);subst this;obtain⟨_,_,_,h3⟩:=h;intro e;rw[e] at h3;cases h3
 | row i =>
  have:=b0P (show Nat.beq i d=true from hr);subst this;obtain⟨_,h3,_⟩:=h;intro e;rw[e] at h3;cases h3
 | gp i k o =>
  have:=b0P (show Nat.beq i d=true from hr);subst this;obtain⟨_,_,_,_,_,_,_,h3,_⟩:=h;intro e;rw[e] at h3;cases h3
 | aD i =>
  have:=b0P (show Nat.beq i d=true from hr);subst this;intro e;have h1:=h.1;rw[e] at h1;cases h1
 | sub i k o z =>
  have:=b0P (show Nat.beq i d=true from hr);subst this;intro e;have h1:=h.1;rw[e] at h1;cases h1
 | gQ i k o z =>
  have:=b0P (show Nat.beq i d=true from hr);subst this;intro e;have h1:=h.1;rw[e] at h1;cases h1
 | mp i =>
  have:=b0P (show Nat.beq i d=true from hr);subst this;intro e;have h1:=h.2.1;rw[e] at h1;cases h1
 | agg cs=>exact h.elim
 | mI cs=>exact h.elim
 | dO f cs=>exact h.elim
 | _=>cases hr
theorem uf{d:Nat}:∀ {cs:List AV},AV.jJ d cs=true->∃ v∈cs,v.refs d=true
 | v::r,h=>by
  simp only[AV.jJ] at h;split at h
  .rename_i hv;exact⟨v,by simp,hv⟩
  .obtain⟨u,hu,hr⟩:=uf h;exact⟨u,by simp[hu],hr⟩
theorem bf.mem_left{α β:Type}{R:α->β->Prop}:∀ {Z9:List α} {bs:List β},bf R Z9 bs->∀ x∈Z9,∃ y,R x y
 | _::_,b::_,h,x,hx=>by
  rcases b1e.1 hx with rfl|hx
  .exact⟨b,h.1⟩
  .exact bf.mem_left h.2 x hx
theorem VR.fL{lk:Nat->Option aG}{v:AV}{x:Value}(h:VR c G lk w v x){d:Nat}(hr:v.refs d=true):lk d≠none:=by
 cases v with
 | aT u=>cases hr
 | agg cs =>
  obtain⟨l,_,hl⟩:=h;obtain⟨u,hu,Ih⟩:=uf (show AV.jJ d cs=true from hr);obtain⟨y,hy⟩:=hl.mem_left u hu;exact hy.fL Ih
 | mI vs =>
  obtain⟨l,_,hl⟩:=h;obtain⟨u,hu,Ih⟩:=uf (show AV.jJ d vs=true from hr);obtain⟨y,hy⟩:=hl.mem_left u hu;cases u with
  | aD i=>exact C1.fL (c:=c) (G:=G) (w:=w) (v := .aD i) hy Ih
  | agg cs =>
   obtain⟨l,_,hl⟩:=hy;obtain⟨u,hu,Ih⟩:=uf (show AV.jJ d cs=true from Ih);obtain⟨y,hy⟩:=hl.mem_left u hu;exact hy.fL Ih
  | _=>first|(cases Ih;done)|exact hy.elim
 | dO f vs =>
  obtain⟨l,_,hl⟩:=h;obtain⟨u,hu,Ih⟩:=uf (show AV.jJ d vs=true from hr);obtain⟨y,hy⟩:=hl.mem_left u hu;rcases hy.inv with ⟨v,rfl,_⟩|⟨cs,l,rfl,_,hl⟩|h1
  .cases Ih
  .obtain⟨u,hu,Ih⟩:=uf (show AV.jJ d cs=true from Ih);obtain⟨y,hy⟩:=hl.mem_left u hu;exact hy.fL Ih
  .exact h1.fL Ih
 | ptr i o=>exact C1.fL (c:=c) (G:=G) (w:=w) (v := .ptr i o) h hr
 | row i=>exact C1.fL (c:=c) (G:=G) (w:=w) (v := .row i) h hr
 | gp i k o=>exact C1.fL (c:=c) (G:=G) (w:=w) (v := .gp i k o) h hr
 | aD i=>exact C1.fL (c:=c) (G:=G) (w:=w) (v := .aD i) h hr
 | sub i k o z=>exact C1.fL (c:=c) (G:=G) (w:=w) (v := .sub i k o z) h hr
 | gQ i k o z=>exact C1.fL (c:=c) (G:=G) (w:=w) (v := .gQ i k o z) h hr
 | mp i=>exact C1.fL (c:=c) (G:=G) (w:=w) (v := .mp i) h hr
 | _=>cases hr
theorem Inv.VP(h:Inv c G s a w){d:Nat}(hd:s.ah d=none):(∀ i,(s.sl i).refs d=false)/\∀ i o,s.ah i=some o->o.refs d=false:=by
 refine⟨λ i=>?_,λ i o ho=>?_⟩
 .cases hr:(s.sl i).refs d with
  | false=>rfl
  | true=>exact absurd hd ((h.aE i).fL hr)
 .cases o with
  | row e τ xs=>rfl
  | aD τ xs=>rfl
  | map m=>rfl
  | box cs =>
   cases hr:aG.refs d (.box cs) with
   | false=>rfl
   | true =>
    obtain⟨b,l,t,_,_,k3⟩:=h.aR i _ ho;obtain⟨u,hu,Ih⟩:=uf (show AV.jJ d cs=true from hr);obtain⟨y,hy⟩:=k3.mem_left u hu;exact absurd hd (hy.fL Ih)
theorem Sk(h0:Inv c G s a w){d:Option Nat}{v:AV}{ob:Option aG}{a':Act}(Mp:xL d=true)(xN:∀ i o,d=some i->ob=some o->s.ah i=none)(h:Bg c G s.sl s.aE.length s.ah d a w v ob a' w') :
  ∃ G',Inv c G' (s.od d v ob) a' w':=by
 obtain⟨x,S',rfl,hI,hx⟩:=h;cases ob with
 | none =>
  refine⟨⟨S',G.η,G.φ⟩,?_⟩;have:s.od d v none=s.put d v:=by cases d<;>rfl
  rw[this];exact Inv.put (s:=s) hI hx
 | some o =>
  obtain⟨hL,hN,hb⟩:=hx;have hd:∃ i,d=some i:=by cases o<;>first|exact⟨_,hL.choose_spec.1⟩|exact hL.elim
  obtain⟨i,rfl⟩:=hd;have hi:=xN i o rfl rfl;have A5:Inv c ⟨S',G.η,G.φ⟩ s a w':=hI;obtain⟨hn1,hn2⟩:=A5.VP hi;have hor:o.refs i=false:=by
   cases o with
   | row e τ xs=>rfl
   | aD τ xs=>rfl
   | map m=>rfl
   | box cs =>
    cases hr:aG.refs i (.box cs) with
    | false=>rfl
    | true =>
     obtain⟨b,l,t,_,_,k3⟩:=hN;obtain⟨u,hu,Ih⟩:=uf (show AV.jJ i cs=true from hr);obtain⟨y,hy⟩:=k3.mem_left u hu;exact absurd hi (hy.fL Ih)
  have vx:OR c ⟨S',λ j=>if j=i then x else G.η j,G.φ⟩ (λ j=>if j=i then some o else s.ah j) w' i o:=by
   cases o with
   | box cs =>
    obtain⟨b,l,t,k1,k2,k3⟩:=hN;refine⟨b,l,t,by simp[k1],k2,k3.imp λ u y hu hy=>hy.mono (λ j hj=>?_) (λ _ h=>h) (λ _ _=>rfl)⟩;have gU:j≠i:=λ e=>by
     subst e;have:=qS hu hj;rw[show AV.jJ j cs=aG.refs j (.box cs) from rfl,hor] at this;cases this
    simp only[b0Y gU];exact⟨gw.refl _,af⟩
   | row e τ xs =>
    obtain⟨l,k1,k2,k3⟩:=hN;exact⟨l,by simpa using k1,k2,k3⟩
   | aD τ xs=>exact hN.elim
   | map m =>
    obtain⟨b,es,clock,k1,k2,k3⟩:=hN;exact⟨b,es,clock,by simp[k1],k2,k3⟩
  have hot:cN (some o)=false:=by
   cases o with
   | aD τ xs=>exact hN.elim
   | _=>rfl
  have h4:=bH.newObj A5 i o x hi hn1 hn2 hor vx hot (.inr (b1r Mp)) (λ b U1=>by
   obtain⟨q1,q2,q3⟩:=hb b U1;have hle:=h0.bd.size;refine⟨by omega,q3,q2,λ j p hjp SV=>?_,λ j τ xs hj SV=>?_⟩
   .have:=(h0.place j p b hjp SV).2.2;omega
   .have:=(h0.aW.pl j τ xs b hj SV).2.2.1;omega)
  refine⟨⟨S',λ j=>if j=i then x else G.η j,G.φ⟩,?_⟩;unfold Inv;have cY:(s.od (some i) v (some o)).ah=λ j=>if j=i then some o else s.ah j:=by
   funext j;rw[Fk];by_cases hj:j=i
   .subst hj;simp
   .have:¬ (some i=some j):=by simp;exact λ e=>hj e.symm
    rw[b0Y this,b0Y hj]
  rw[Pz,cY,QK];refine bH.put h4 ?_;cases o with
  | box cs =>
   obtain⟨j,hj,rfl⟩:=hL;simp only[b0L] at hj;subst hj;obtain⟨b,l,t,k1,k2,k3⟩:=hN;exact⟨b,by simp[k1],k1,by simp[jG]⟩
  | row e τ xs =>
   obtain⟨j,hj,rfl⟩:=hL;simp only[b0L] at hj;subst hj;obtain⟨l,k1,k2,k3⟩:=hN;refine⟨by simp,by simp[isRow],?_⟩;rcases k1.2 with ⟨rfl,_⟩|⟨g,cap,cur,rfl,_⟩
   .exact⟨_,_,_,rfl⟩
   .exact⟨_,_,_,rfl⟩
  | aD τ xs=>exact hN.elim
  | map m =>
   obtain⟨j,hj,rfl⟩:=hL;simp only[b0L] at hj;subst hj;obtain⟨b,es,clock,k1,k2,k3⟩:=hN;exact⟨by simp,by simp[MA],b,k1⟩
theorem a1p(h:Inv c G s a w)(o:Oper):Inv c G (s.fresh o) a w:=by
 unfold ai.fresh;split
 .rename_i d _ _;obtain⟨h1,_,_⟩:=h.clear d;have cY:ai.ah { s.cF d with aR:=cf d (s.cF d).aR }=λ i=>if i=d then none else (s.cF d).ah i:=by
   funext i;exact gq d _ i
  unfold Inv;show bH c G (s.cF d).sl (s.cF d).aE.length (ai.ah { s.cF d with aR:=cf d (s.cF d).aR }) a w;rw[cY,show (s.cF d).aE.length=s.aE.length from by simp[ai.cF]];exact h1
 .exact h
theorem Z5(s:ai)(o:Oper)(j:Nat):(s.ah j=none->(s.fresh o).ah j=none)/\(zB o.op=true->o.dst=some j->(s.fresh o).ah j=none):=by
 unfold ai.fresh;split
 .rename_i d hc hd;have cY:ai.ah { s.cF d with aR:=cf d (s.cF d).aR } j=if j=d then none else (s.ah j).map (aG.kill d):=by
   show ah (cf d (s.cF d).aR) j=_;rw[gq];have:=congrFun (fN s d) j;show (if j=d then none else (s.cF d).ah j)=_;rw[this]
  rw[cY];refine⟨λ h=>by rw[h];simp,λ _ hj=>?_⟩;rw[hd] at hj;simp only[b0L] at hj;rw[b1q hj.symm]
 .rename_i lH;exact⟨λ h=>h,λ hc hd=>(lH j hc hd).elim⟩
theorem E6:∀ (l:List Oper) {s:ai},Inv c G s a w->Inv c G (l.foldl ai.fresh s) a w
 | [],_,h=>h
 | o::r,_,h=>E6 r (a1p h o)
theorem CE:∀ (l:List Oper) (s:ai) (j:Nat),(s.ah j=none->(l.foldl ai.fresh s).ah j=none)/\(∀ o∈l,zB o.op=true->o.dst=some j->(l.foldl ai.fresh s).ah j=none)
 | [],s,j=>⟨λ h=>h,by simp⟩
 | o::r,s,j=>by
  obtain⟨h1,h2⟩:=CE r (s.fresh o) j;obtain⟨h3,h4⟩:=Z5 s o j;refine⟨λ h=>h1 (h3 h),λ p hp hc hd=>?_⟩;rcases b1e.1 hp with rfl|hp
  .exact h1 (h4 hc hd)
  .exact h2 p hp hc hd
theorem Ut{E:Env}{lk:Nat->Option aG}{f:FuncId}{Ts:List TypeId}{vs:List AV}{vc:Vc}{v:AV}{ob:Option aG}(h:Jl E lk f Ts vs=some (vc,v,ob)):ob=none:=by
 unfold Jl at h;repeat' split at h
 all_goals first
  | (simp only[b0L,b0O] at h;exact h.2.2.symm)
  | cases h
theorem R6{E:Env}{lk:Nat->Option aG}{g:AV}{Ts:List TypeId}{vs:List AV}{vc:Vc}{v:AV}{ob:Option aG}(h:DG E lk g Ts vs=some (vc,v,ob)):ob=none:=by
 unfold DG at h;split at h
 .rename_i r hr;repeat' split at hr
  all_goals first
   | (simp only[b0L] at hr h;subst hr;simp only[b0O] at h;exact h.2.2.symm)
   | cases hr
 .repeat' split at h
  all_goals first
   | (simp only[b0L,b0O] at h;exact h.2.2.symm)
   | cases h
theorem Ps{E:Env}{lk:Nat->Option aG}{ev:Operand->AV}{o:Oper}{vc:Vc}{v:AV}{ob:aG}(h:MY E lk ev o=some (vc,v,some ob)):zB o.op=true:=by
 unfold MY at h;split at h;case h_4 T bL=>rw[bL];rfl
 case h_5 T x bL=>rw[bL];rfl
 case h_7 T n ps bL=>rw[bL];rfl
 case h_21 T bL=>rw[bL];rfl
 case h_19 T x y bL=>rw[bL];rfl
 case h_20 cl bL =>
  split at h
  .repeat' split at h
   all_goals first
    | (simp at h;done)
    | cases h
  .rename_i kR;rw[bL];simp[zB,kR]
  .rename_i kR;repeat' (split at h)
   all_goals first|cases h|skip
  .exact absurd (Ut h) (by simp)
  .split at h
   .exact absurd (Ut h) (by simp)
   .exact absurd (R6 h) (by simp)
   .exact absurd (R6 h) (by simp)
   .cases h
  .cases h
 all_goals (repeat' split at h)
 all_goals first
  | (simp at h;done)
  | cases h
end
end Go.Proofs.YtmjfpcajohhbeaaGreatDoor

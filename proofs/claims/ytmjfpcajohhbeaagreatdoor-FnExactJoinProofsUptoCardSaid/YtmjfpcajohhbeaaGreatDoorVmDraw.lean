/- VmEff, VmTree, VmMark, VmOwnOps, VmBuild, VmBuild2, VmSt, VmStep, VmDraw. -/
import Derived.Test.YtmjfpcajohhbeaaGreatDoorVmOps
set_option linter.all false
namespace Go.Proofs.YtmjfpcajohhbeaaGreatDoor
def b3N:=@List.getD_eq_getElem?_getD
def b5T:=@Array.eq_empty_of_size_eq_zero
def b7y:=@Go.setRow_heap
def b5H:=@List.drop_eq_nil_of_le
def b4Y:=@List.length_set
def b5n:=@List.map_append
def b5a:=@Go.Value.tuple.injEq
def b6Z:=@List.toArray_inj
def b4a:=@List.nodup_append
def b4M:=@List.cons_append
def b4I:=@List.nodup_nil
def b4n:=@List.nodup_cons
def b4K:=@List.take_append_drop
def b6x:=@List.map_set
def b5A:=@List.getElem?_eq_none
def b5o:=@Bool.or_eq_true
def b5R:=@Nat.lt_irrefl
def b7t:=@Array.toList_append
def b5U:=@List.mem_cons_self
def b6m:=@Classical.byContradiction
def b6t:=@List.nodup_range
def b5V:=@List.Nodup.length_le_of_subset
def b5d:=@Go.Oper.wp_mono
def b6e:=@Option.getD_some
def b7h:=@List.set_getElem_self
def b6y:=@List.foldl_cons
theorem J0(f:aA->aA):∀ (l:List (Nat×aA)) (j:Nat),ah (l.map λ p=>(p.1,f p.2)) j=(ah l j).map f
 | [],_=>rfl
 | (k,o)::r,j=>by
  simp only[b4o,ah];split
  .rfl
  .exact J0 f r j
theorem eH(id:Nat):∀ (l:List (Nat×aA)) (j:Nat),ah (bR id l) j=if j=id then none else ah l j
 | [],_=>by simp[bR,ah]
 | (k,o)::r,j=>by
  simp only[bR];split
  .rename_i h;have h:=b3x h;subst h;rw[eH k r j];by_cases hj:j=k
   .simp[hj]
   .rw[b3H hj,b3H hj];simp only[ah];split
    .rename_i h;exact absurd (b3x h).symm hj
    .rfl
  .rename_i h;have hk:k≠id:=λ e=>by subst e;simp at h
   simp only[ah];split
   .rename_i h';have h':=b3x h';subst h';rw[b3H hk]
   .exact eH id r j
theorem dC(k:Nat)(o:aA)(l:List (Nat×aA))(j:Nat):ah ((k,o)::l) j=if j=k then some o else ah l j:=by
 simp only[ah];split
 .rename_i h;rw[b4d (b3x h).symm]
 .rename_i h;have:j≠k:=λ e=>by subst e;simp at h
  rw[b3H this]
theorem qG(l:List AV)(d:Nat)(v:AV)(o:List (Nat×aA)):ai.sl ⟨l.set d v,o⟩=jP l.length (ai.sl ⟨l,o⟩) (some d) v:=by
 funext i;simp only[ai.sl,jP,b3N,b6r,b3t];by_cases h:d=i
 .subst h;by_cases hl:d<l.length
  .simp[hl]
  .simp[hl]
 .simp[h]
theorem a4Z(s:ai)(d:Option Nat)(v:AV):(s.put d v).sl=jP s.aC.length s.sl d v:=by
 cases d with
 | none=>funext i;simp[ai.put,jP]
 | some d=>exact qG s.aC d v s.aK
theorem Zb(s:ai)(d:Option Nat)(v:AV):(s.put d v).ah=s.ah:=by cases d<;>rfl
theorem SY(s:ai)(d:Option Nat)(v:AV):(s.put d v).aC.length=s.aC.length:=by cases d<;>simp[ai.put]
theorem Zx(s:ai)(id:Nat):(s.cp id).sl=λ i=>(s.sl i).kill id:=by
 funext i;simp only[ai.sl,ai.cp,b3N,b5k];cases s.aC[i]?<;>simp[AV.kill,AV.refs]
theorem eh(s:ai)(id:Nat):(s.cp id).ah=λ i=>(s.ah i).map (aA.kill id):=by
 funext i;exact J0 _ _ _
section
variable {c:Ctx} {G:Gh} {s:ai} {a:Act} {w w':World}
theorem Inv.put(h:Inv c G s a w){d:Option Nat}{v:AV}{x:Value}(hv:VR c G s.ah w v x):Inv c G (s.put d v) (a.put d x) w:=by
 unfold Inv;rw[a4Z,Zb,SY];exact bu.put h hv
theorem Inv.clear(h:Inv c G s a w)(id:Nat):bu c G (s.cp id).sl s.aC.length (λ i=>if i=id then none else (s.cp id).ah i) a w /\
  (∀ i,((s.cp id).sl i).refs id=false)/\∀ i o,(s.cp id).ah i=some o->o.refs id=false:=by
 have h1:=bu.cp h id;have hs:∀ i,((s.cp id).sl i).refs id=false:=λ i=>by rw[Zx];exact Fa id _
 have ho:∀ i o,(s.cp id).ah i=some o->o.refs id=false:=λ i o cF=>by
  rw[eh] at cF;simp only[b4t] at cF;obtain⟨o',_,rfl⟩:=cF;cases o' with
  | box cs=>exact JA id cs
  | row e τ xs=>rfl
  | aw τ xs=>rfl
  | map m=>rfl
 refine⟨?_,hs,ho⟩;rw[Zx,eh];exact bu.a8v h1 id (λ i=>Fa id _) (λ i o cF _=>by
  have:=ho i o (by rw[eh];exact cF);exact this)
theorem X4(id:Nat)(o:aA):(o.kill id).refs id=false:=by
 cases o with
 | box cs=>exact JA id cs
 | row e τ xs=>rfl
 | aw τ xs=>rfl
 | map m=>rfl
theorem Inv.a4D(h:Inv c G s a w){id:Nat}{v:AV}{o:aA}{x:Value}(bK:id<400000)(hN:a4b c G s.ah w x o)(hL:LV (some id) v o)
  (jq:∀ b,eb x=some b->(c.w0.heap.size<=b\/c.X b)/\¬ G.S b/\b<w.heap.size/\(∀ i o',i≠id->s.ah i=some o'->eb (G.η i)≠some b)/\∀ j τ xs,s.ah j=some (.aw τ xs)->b∉G.φ j) :
  Inv c ⟨G.S,λ i=>if i=id then x else G.η i,G.φ⟩ (s.lay (some id) v (some o)) (a.put (some id) x) w:=by
 obtain⟨h1,h2,h3⟩:=h.clear id;have cr:(s.lay (some id) v (some o)).ah=λ i=>if i=id then some (o.kill id) else (if i=id then none else (s.cp id).ah i):=by
  funext i;show ah ((id,o.kill id)::bR id (s.cp id).aK) i=_;rw[dC,eH];rfl
 have E5:(s.lay (some id) v (some o)).sl=jP s.aC.length (s.cp id).sl (some id) v:=by
  have:=qG (s.cp id).aC id v ((id,o.kill id)::bR id (s.cp id).aK);rw[show (s.cp id).aC.length=s.aC.length from by simp[ai.cp]] at this;exact this
 have hlen:(s.lay (some id) v (some o)).aC.length=s.aC.length:=by simp[ai.lay,ai.cp]
 have qU:OR c ⟨G.S,λ i=>if i=id then x else G.η i,G.φ⟩ (λ i=>if i=id then some (o.kill id) else (if i=id then none else (s.cp id).ah i)) w id (o.kill id):=by
  cases o with
  | box cs =>
   obtain⟨b,l,t,k1,k2,k3⟩:=hN;refine⟨b,l,t,by simp[k1],k2,aT.en _ (k3.imp λ u y _ hy=>?_)⟩;refine (hy.kill id).mono (λ j hj=>?_) (λ _ h=>h) (λ _ _=>rfl);have eQ:j≠id:=λ e=>by subst e;rw[Fa] at hj;cases hj
   simp only[b3H eQ];exact⟨by rw[eh];exact NR id _,ae⟩
  | row e τ xs =>
   obtain⟨l,k1,k2,k3⟩:=hN;exact⟨l,by simpa using k1,k2,k3⟩
  | aw τ xs=>exact hN.elim
  | map m =>
   obtain⟨b,es,clock,k1,k2,k3⟩:=hN;exact⟨b,es,clock,by simp[k1],k2,k3⟩
 have hot:cx (some (o.kill id))=false:=by
  cases o with
  | aw τ xs=>exact hN.elim
  | _=>rfl
 have h4:=bu.newObj h1 id (o.kill id) x (by simp) h2 (λ i p wR=>by
  by_cases hi:i=id
  .simp[hi] at wR
  .rw[b3H hi] at wR;exact h3 i p wR) (X4 id o) qU hot (.inr bK) (λ b hb=>by
  obtain⟨q1,q2,q3,q4,q5⟩:=jq b hb;refine⟨q1,q2,q3,λ i p wR=>?_,λ j τ xs hj=>?_⟩
  .by_cases hi:i=id
   .simp[hi] at wR
   .rw[b3H hi,eh] at wR;simp only[b4t] at wR;obtain⟨p',V7,_⟩:=wR;exact q4 i p' hi V7
  .by_cases hi:j=id
   .simp[hi] at hj
   .rw[b3H hi,eh] at hj;exact q5 j τ xs (jy hj))
 unfold Inv;rw[E5,cr,hlen];refine bu.put h4 ?_;cases o with
 | box cs =>
  obtain⟨i,hi,rfl⟩:=hL;simp only[b3t] at hi;subst hi;obtain⟨b,l,t,k1,k2,k3⟩:=hN;exact⟨b,by simp[k1],k1,by simp[aA.kill,gf]⟩
 | row e τ xs =>
  obtain⟨i,hi,rfl⟩:=hL;simp only[b3t] at hi;subst hi;obtain⟨l,k1,k2,k3⟩:=hN;refine⟨by simp,by simp[aA.kill,isRow],?_⟩;rcases k1.2 with ⟨rfl,_⟩|⟨g,cap,cur,rfl,_⟩
  .exact⟨_,_,_,rfl⟩
  .exact⟨_,_,_,rfl⟩
 | aw τ xs=>exact hN.elim
 | map m =>
  obtain⟨i,hi,rfl⟩:=hL;simp only[b3t] at hi;subst hi;obtain⟨b,es,clock,k1,k2,k3⟩:=hN;exact⟨by simp,by simp[aA.kill,Ni],b,k1⟩
theorem WE(h0:Inv c G s a w){d:Option Nat}(M4:uf d=true){v:AV}{ob:Option aA}{a':Act}(h:Ad c G s.sl s.aC.length s.ah d a w v ob a' w'):∃ G',Inv c G' (s.lay d v ob) a' w':=by
 obtain⟨x,S',rfl,hI,hx⟩:=h;cases ob with
 | none=>exact⟨_,by cases d<;>exact Inv.put (s:=s) hI hx⟩
 | some o =>
  obtain⟨hL,hN,hb⟩:=hx;have hd:∃ i,d=some i:=by cases o<;>first|exact⟨_,hL.choose_spec.1⟩|exact hL.elim
  obtain⟨i,rfl⟩:=hd;refine⟨_,Inv.a4D (s:=s) hI (b4B M4) hN hL λ b Ri=>?_⟩;obtain⟨h1,h2,h3⟩:=hb b Ri;have hle:=h0.aS.size;refine⟨by omega,h3,h2,λ j o' _ hj Tx=>?_,λ j τ xs hj Tx=>?_⟩
  .have:=(h0.place j o' b hj Tx).2.2;omega
  .have:=(h0.aR.pl j τ xs b hj Tx).2.2.1;omega
theorem a1g{k:IntKind}{n:Int}(h:Vu k n=true):k.min<=n/\n<=k.max:=by
 unfold Vu at h;split at h
 .rename_i m;split at h<;>have h:=b4B h<;>try (simp[IntKind.min,IntKind.max,IntKind.signed,IntKind.bits];omega)
  cases k<;>simp_all [IntKind.min,IntKind.max,IntKind.signed,IntKind.bits]<;>omega
 .rename_i m;split at h
  .have h:=b4B h;simp[IntKind.min,IntKind.max,IntKind.signed,IntKind.bits];omega
  .cases h
theorem Lo(lk:Nat->Option aA)(v:Value):C1 c G lk w (OQ v) v:=by
 unfold OQ;split
 .split
  .rename_i h;exact⟨rfl,rfl,a1g h⟩
  .trivial
 .exact⟨rfl,rfl⟩
 .split
  .rename_i sv _ h;have h:=b4B h;exact⟨rfl,sv,rfl,rfl,by have:sv.size=sv.data.size:=rfl;omega⟩
  .trivial
 .rfl
 .trivial
theorem br(h:Inv c G s a w)(x:Operand):VR c G s.ah w (s.eval x) (a.eval x):=by
 cases x with
 | tmp t=>exact h.aC t
 | const v =>
  simp only[ai.eval,Act.eval];unfold a1f;split
  .rename_i cs;refine⟨cs.toList,rfl,aT.en _ ?_⟩;have:∀ l:List Value,aT (λ u y=>C1 c G s.ah w (OQ u) y) l l:=by
    intro l;induction l with
    | nil=>trivial
    | cons u r ih=>exact⟨Lo _ u,ih⟩
   exact this _
  .rename_i cs;split
   .rename_i hz;have:cs = #[]:=b5T (b3x hz);subst this;exact rfl
   .trivial
  .exact (Lo _ v).fT
 | global g=>trivial
 | func f=>rfl
theorem mJ{g:Nat}{old cs:Array Value}{t:TypeId}{fr:Nat×Nat}(w:World)(hg:w.heap[g]?=some (.cells old t fr))(k:Nat)(hk:k≠g):(w.setRow g cs).heap[k]?=w.heap[k]?:=setRow_other w g k cs hk
theorem wZ(hE:bE c.P c.E){T:TypeId}{τ:Ty}{b e:Nat}(hT:ah c.E.ty T=some (τ,b,e)){g o:Nat}{l:List Value}{t:TypeId}{x:Value}(hg:w.heap[g]?=some (.cells l.toArray t (0,0)))
  (hx:x.cells.toList.length=τ.size) (h1:∀ u∈x.cells.toList,u.oneCell'=true) (Di:o+τ.size<=l.length) :
  (Instr.storeAt T (.pointer (some ⟨g,o,none⟩)) x).run c.P w = .ok () (w.setRow g (l.take o++x.cells.toList++l.drop (o+τ.size)).toArray):=by
 have hn:¬ (x.cells.size≠τ.size):=by simpa using hx
 simp only[Instr.storeAt,Instr.sureAddr,storeVar,Sem.run_bind,Sem.run_pure,Result.andThen_ok,hE.sizeOf hT,if_neg hn];have:=run_storeCells_at c.P g o t x.cells.toList 0 l.toArray w hg (by simp at hx ⊢;omega) h1;simpa [hx] using this
theorem Yf{cs new dB:List AV}{off:Nat}(h:putCells cs off new=some dB):off+new.length<=cs.length/\dB=cs.take off++(new++cs.drop (off+new.length)):=by
 unfold putCells at h;split at h
 .rename_i hb;simp only[b3t] at h;exact⟨b4B hb,h.symm⟩
 .cases h
theorem Inv.store(hE:bE c.P c.E)(h:Inv c G s a w){T:TypeId}{τ:Ty}{bt e:Nat}(hT:ah c.E.ty T=some (τ,bt,e)){id off:Nat}{cs new dB:List AV}{x p:Value}(aZ:s.ah id=some (.box cs))(hp:VR c G s.ah w (.ptr id off) p)
  (qU:∃ v,cellsOf τ v=some new/\VR c G s.ah w v x) (Dl:putCells cs off new=some dB) :
  ∃ w',(Instr.storeAt T p x).run c.P w = .ok () w'/\Inv c G { s with aK:=(id, .box dB)::bR id s.aK } a w':=by
 obtain⟨v,hv,hx⟩:=qU;obtain⟨h1,h2,h3⟩:=BG hv hx;obtain⟨h4,rfl⟩:=Yf Dl;obtain⟨b,k1,rfl,_⟩:=hp;obtain⟨b',l,t,k2,k3,k4⟩:=h.aK id _ aZ;rw[k1] at k2;simp only[b5O,b3t,b5i,b3L] at k2;subst k2;have hlen:=h1.length;have hll:=k4.length;have cG:=wZ (c:=c) hE hT (o:=off) (x:=x) k3 (by omega) h2 (by omega);refine⟨_,cG,?_⟩;have E5:ai.sl { s with aK:=(id, .box (cs.take off++(new++cs.drop (off+new.length))))::bR id s.aK }=s.sl:=rfl;have cr:ai.ah { s with aK:=(id, .box (cs.take off++(new++cs.drop (off+new.length))))::bR id s.aK }=λ i=>if i=id then some (.box (cs.take off++(new++cs.drop (off+new.length)))) else s.ah i:=by
  funext i;show ah (_::bR id s.aK) i=_;rw[dC,eH];by_cases hi:i=id
  .simp[hi]
  .simp[hi];rfl
 unfold Inv;rw[E5,cr];have cw:∀ k,St c G.S k->(w.setRow b (l.take off++x.cells.toList++l.drop (off+τ.size)).toArray).heap[k]?=w.heap[k]?:=λ k hk=>mJ w k3 k λ e=>by
  subst e;obtain⟨q1,q2,q3⟩:=h.place id _ k aZ (by rw[k1];rfl);rcases hk with hk|hk
  .exact q2 hk
  .exact q1.elim (λ q=>by omega) hk.2.1
 have eR:∀ j,eJ (s.ah j) ((λ i=>if i=id then some (aA.box (cs.take off++(new++cs.drop (off+new.length)))) else s.ah i) j):=λ j=>by
  by_cases hj:j=id
  .subst hj;simp only[b5u];exact⟨λ _=>rfl,(λ e τ xs hh=>by rw[aZ] at hh;cases hh),(λ hh=>by rw[aZ] at hh;cases hh),λ hh=>by rw[aZ] at hh;cases hh⟩
  .simp only[b3H hj];exact eJ.refl _
 refine bu.a0r h id _ _ b aZ (by rw[k1];rfl) ⟨λ _=>rfl,(λ e τ xs hh=>by cases hh),(λ hh=>by cases hh),λ hh=>by cases hh⟩ rfl (λ k hk=>mJ w k3 k hk) rfl rfl rfl (by simp[World.setRow]) ?_;refine⟨b,_,t,k1,b7y w b _ _ t _ k3,?_⟩;have key:aT (C1 c G s.ah w) (cs.take off++(new++cs.drop (off+new.length))) (l.take off++x.cells.toList++l.drop (off+τ.size)):=by
  rw[b4x,<-h3];exact aT.append (k4.take off) (aT.append h1 (k4.drop _))
 exact key.imp λ u y _ hy=>hy.mono (λ j _=>⟨eR j,rfl⟩) (λ _ h=>h) cw
theorem WH(cur cA:List Value)(o sz N:Nat)(hv:cA.length=sz)(hN:o+sz<=N)(hc:N<=cur.length) :
  (cur.take o++cA++cur.drop (o+sz)).take N=(cur.take N).take o++cA++(cur.take N).drop (o+sz):=by
 have h1:(cur.take o++cA).length=o+sz:=by simp[hv];omega
 rw[b6Y,h1,b3U (by omega),List.take_take,Nat.min_eq_left (by omega),List.drop_take]
theorem dT.a9V{S:Nat->Prop}{n:Nat}{d':D}{c':List Value}(hd:Rd w S d' c')(BZ:c'.length=n):∀ (ds:List D) {l:List Value} (i:Nat),dT w S ds l->(∀ d∈ds,d.size=n)->i<ds.length->dT w S (ds.set i d') (l.take (i * n)++c'++l.drop (i * n+n))
 | [],l,i,_,_,hi=>by simp at hi
 | e::ds,l,0,h,hn,_=>by
  obtain⟨c1,r,rfl,h2,h3⟩:=h;have hc:c1.length=n:=by rw[Rd.length _ h2];exact hn _ (by simp)
  refine⟨c',r,?_,hd,h3⟩;simp only[b6v,b4z,b3Y,b5b];rw[<-hc,b5M]
 | e::ds,l,i+1,h,hn,hi=>by
  obtain⟨c1,r,rfl,h2,h3⟩:=h;have hc:c1.length=n:=by rw[Rd.length _ h2];exact hn _ (by simp)
  refine⟨c1,r.take (i * n)++c'++r.drop (i * n+n),?_,h2,dT.a9V hd BZ ds i h3 (λ d hd=>hn d (by simp[hd])) (by simpa using hi)⟩;have e1:(i+1) * n=c1.length+i * n:=by rw[Nat.add_mul,hc];omega
  rw[e1,b6Y,b3U (by omega),show c1.length+i * n - c1.length=i * n by omega,b6s,List.drop_append,b5H (by omega),b3Y,
   show c1.length+(i * n+n) - c1.length=i * n+n by omega]
  simp
theorem Inv.a5V(hE:bE c.P c.E)(h:Inv c G s a w){T:TypeId}{τ:Ty}{bt e:Nat}(hT:ah c.E.ty T=some (τ,bt,e)){id i:Nat}{e':TypeId}{xs:List τ.den}{v:AV}{y:τ.den}{x p:Value}(aZ:s.ah id=some (.row e' τ xs))
  (hp:VR c G s.ah w (.eG id i 0) p) (hx:VR c G s.ah w v x) (hy:zI (λ _=>none) τ v=some y) :
  ∃ w',(Instr.storeAt T p x).run c.P w = .ok () w'/\Inv c G { s with aK:=(id, .row e' τ (xs.set i y))::bR id s.aK } a w':=by
 obtain⟨b,n,cap,e1,Yp,Yo,k1,k2,k3,rfl⟩:=hp;rw[aZ] at k2;simp only[b3t,aA.row.injEq] at k2;obtain⟨rfl,rfl,k2⟩:=k2;have k2:=b6H k2;subst k2;have hr:=(Om hy hx).cells;have uQ:x.cells.toList.length=τ.size:=by
  have:=Rd.length _ hr;rwa [show TV.aP ⟨τ,y⟩=τ.aP y from rfl,Ty.cM] at this
 have Ix:∀ u∈x.cells.toList,u.oneCell'=true:=Rd.mX (x:=y) hr;obtain⟨l,m1,m2,m3⟩:=h.aK id _ aZ;have cJ:∀ d∈xs.map τ.aP,d.size=τ.size:=by
  intro d hd;obtain⟨z,_,rfl⟩:=b3E.1 hd;exact Ty.cM τ z
 have hll:=dT.length _ m2 cJ;simp only[b3M] at hll;have Di:i * τ.size+τ.size<=xs.length * τ.size:=by
  have:=b5v τ.size (show i+1<=xs.length by omega);rw[b4O] at this;omega
 rcases m1.2 with ⟨hv,_⟩|⟨g,SE,cur,hv,_,hh,XZ,hcm,ka,htk⟩
 .rw[k1] at hv;cases hv
 .rw[k1] at hv;simp only[b5e,b3t,b5i,b3L] at hv;obtain⟨rfl,rfl,rfl⟩:=hv;have EZ:xs.length * τ.size<=cur.toList.length:=by
   rw[b4A (xs:=cur),ka];exact b5v _ XZ
  have cG:=wZ (c:=c) (l:=cur.toList) hE hT (o:=i * τ.size+0) (x:=x) (by simpa using hh) uQ Ix (by omega);refine⟨_,cG,?_⟩;have cr:ai.ah { s with aK:=(id, .row e' τ (xs.set i y))::bR id s.aK }=λ j=>if j=id then some (.row e' τ (xs.set i y)) else s.ah j:=by
   funext j;show ah (_::bR id s.aK) j=_;rw[dC,eH];by_cases hj:j=id
   .simp[hj]
   .simp[hj];rfl
  unfold Inv;rw[cr];refine bu.a0r h id _ _ b aZ (by rw[k1];rfl) ⟨λ hh=>(by cases hh),λ e2 kL ng hh=>?_,(λ hh=>by cases hh),λ hh=>by cases hh⟩ rfl (λ k hk=>mJ w hh k hk) rfl rfl rfl (by simp[World.setRow]) ?_
  .simp only[b3t,aA.row.injEq] at hh;obtain⟨rfl,rfl,hh⟩:=hh;have hh:=b6H hh;subst hh;exact⟨_,_,rfl,by simp⟩
  .refine⟨(l.take (i * τ.size)++x.cells.toList++l.drop (i * τ.size+τ.size)),⟨?_, .inr ⟨b,cap,_,by simpa using k1,Nat.zero_le _,setRow_heap w b cur _ e' _ hh,by simpa using XZ,hcm,?_,?_⟩⟩,?_,by simpa using m3⟩
   .rw[b4Y,b3J,b3J,b3R,b4L,uQ,hll];omega
   .rw[List.size_toArray,b3J,b3J,b3R,b4L,uQ,<-ka,<-b4A (xs:=cur)];omega
   .simp only[b5s,b4Y];rw[WH _ _ _ _ _ uQ Di EZ,htk]
   .rw[List.map_set];have:=dT.a9V hr (by rw[uQ]) _ i m2 cJ (by simpa using k3);refine dT.aS (λ _ h=>h) (λ k hk=>mJ w hh k λ e=>?_) _ this;subst e;exact (h.place id _ k aZ (by rw[k1];rfl)).2.1 hk
theorem Inv.UF(hE:bE c.P c.E)(h:Inv c G s a w){T:TypeId}{κ ε:Ty}(hT:ah c.E.mty T=some (κ,ε)){id:Nat}{f:κ.den->Option ε.den}{n:Nat}(aZ:s.ah id=some (.map ⟨κ,ε,f,n⟩))
  {k:κ.den} {x:ε.den} {p y z:Value} (hp:VR c G s.ah w (.mp id) p) (hy:dZ w G.S ⟨κ,k⟩ y) (hz:dZ w G.S ⟨ε,x⟩ z) (hn:n<1000000000) :
  ∃ w',(Instr.mapUpdate T p y z).run c.P w = .ok () w'/\Inv c G { s with aK:=(id, .map ⟨κ,ε,LJ f k x,S5 (f k) n⟩)::bR id s.aK } a w':=by
 obtain⟨kT,eT,u1,u2,u3,u4,_⟩:=hE.map hT w;obtain⟨b,es,clock,k1,k2,k3⟩:=h.aK id _ aZ;have sc:∀ {τ:Ty} {q:τ.den} {v:Value},τ.key=true->dZ w G.S ⟨τ,q⟩ v->wM τ q v:=λ {τ q v} hs hv=>by
  refine wM.of (w:=w) (S:=G.S) hs ?_;cases τ with
  | int _=>exact hv
  | bool=>exact hv
  | str=>exact hv
  | _=>cases hs
 obtain⟨es',Uy,m1,m2⟩:=k3.store (P:=c.P) u1 u2 k2 (sc u3 hy) (sc u4 hz) hn;obtain⟨hp1,_⟩:=hp;refine⟨_,by rw[hp1,k1];exact m1,?_⟩;have cr:ai.ah { s with aK:=(id, .map ⟨κ,ε,LJ f k x,S5 (f k) n⟩)::bR id s.aK }=λ i=>if i=id then some (.map ⟨κ,ε,LJ f k x,S5 (f k) n⟩) else s.ah i:=by
  funext i;show ah ((id,_)::bR id s.aK) i=_;rw[dC,eH];by_cases hi:i=id
  .simp[hi]
  .simp[hi];rfl
 unfold Inv;rw[cr];obtain⟨q1,q2⟩:=MapKept.heap_set (o' := .map es' Uy) k2;refine bu.a0r h id _ _ b aZ (by rw[k1];rfl) ⟨λ hh=>(by cases hh),(λ e τ xs hh=>by cases hh),(λ hh=>by cases hh),λ _=>rfl⟩ rfl q2 rfl rfl rfl (by simp) ?_;exact⟨b,es',Uy,k1,q1,m2⟩
theorem Inv.append(hE:bE c.P c.E)(h:Inv c G s a w){T:TypeId}{τ:Ty}{bt e id d:Nat}(hT:ah c.E.ty T=some (.slice τ,bt,e)){xs ys:List τ.den}{y:AV}{v z:Value}(aZ:s.ah id=some (.row e τ xs))
  (hv:VR c G s.ah w (.row id) v) (hz:VR c G s.ah w y z) (hy:jH (Qg s.ah) (.slice τ) y=some ys) (E3:aY (xs.length+ys.length) bt) (ty:TypeId) :
  ∃ v' w' G',(Builtin.append_ #[T,T] ty #[v,z]).run c.P w = .ok v' w' /\
   Inv c G' { aC:=(s.cp id).aC.set d (.row id),aK:=(id, .row e τ (xs++ys))::bR id (s.cp id).aK } (a.put (some d) v') w':=by
 obtain⟨rfl,_,_⟩:=hv;have hzc:C1 c G s.ah w y z:=by
  refine hz.Zy ?_;cases y with
  | aF u =>
   have e:=TV.aW hy;subst e;rfl
  | nil=>rfl
  | row i=>rfl
  | aw i=>rfl
  | _=>cases hy
 obtain⟨l,m1,m2,m3⟩:=h.aK id _ aZ;obtain⟨v',w',news,k1,k2,k3,k4,k5,k6⟩:=Sw (w:=w) (base:=0) hE hT m1 (b4G _) (a4e h.aK (Jl λ _ _ h=>h) a1O hy hzc) E3 ty;have TA:=sx m1;have a9N:=sx k2;obtain⟨h1,h2,h3⟩:=h.clear id;have eF:∀ b,eb (G.η id)=some b->(c.w0.heap.size<=b\/c.X b)/\¬ G.S b/\b<w.heap.size:=λ b hb=>h.place id _ b aZ hb;have hw:∀ b,b<w.heap.size->eb (G.η id)≠some b->w'.heap[b]?=w.heap[b]?:=λ b hb eQ=>k3.block b hb (by rw[TA];exact λ e=>eQ e.symm);have cw:∀ b,St c G.S b->w'.heap[b]?=w.heap[b]?:=λ b hb=>by
  refine hw b ?_ λ e=>?_
  .rcases hb with hb|hb
   .exact h.dE b hb
   .exact b3P hb.1 h.aS.size
  .obtain⟨q1,q2,q3⟩:=eF b e;rcases hb with hb|hb
   .exact q2 hb
   .exact q1.elim (λ q=>by omega) hb.2.1
 have b2r:∀ j τ xs b,s.ah j=some (.aw τ xs)->b∈G.φ j->w'.heap[b]?=w.heap[b]?:=λ j τ xs b hj hb =>
  hw b (h.aR.pl j τ xs b hj hb).2.2.1 ((h.aR.pl j τ xs b hj hb).2.2.2 id _ aZ)
 have Dk:∀ j o b,j≠id->s.ah j=some o->eb (G.η j)=some b->w'.heap[b]?=w.heap[b]?:=λ j o b hj ho hb=>by
  refine hw b (h.place j o b ho hb).2.2 λ e=>?_;exact hj (h.apart j id o _ b ho aZ hb e)
 have h4:bu c ⟨G.S,G.η,G.φ⟩ (s.cp id).sl s.aC.length (λ i=>if i=id then none else (s.cp id).ah i) a w':=by
  refine h1.world (S':=G.S) ⟨k3.os,k3.tape,k3.output,k3.size,λ b hb hx=>hw b hb λ e=>hx (eF b e).1⟩ (λ _ h=>h) (λ _ _=>b5z) h1.sX (λ b hb=>b3P (h1.dE b hb) k3.size) cw ?_ (λ j τ xs b hj hb=>by
   by_cases uP:j=id
   .simp[uP] at hj
   .rw[b3H uP,eh] at hj;exact b2r j τ xs b (jy hj) hb)
  intro j o b hj hb;by_cases uP:j=id
  .simp[uP] at hj
  .rw[b3H uP,eh] at hj;simp only[b4t] at hj;obtain⟨o',cO,_⟩:=hj;exact Dk j o' b uP cO hb
 have b0E:((xs++ys).length)=xs.length+ys.length:=by simp
 have h5:=bu.newObj h4 id (.row e τ (xs++ys)) v' (by simp) h2 (λ i p wR=>by
  by_cases hi:i=id
  .simp[hi] at wR
  .rw[if_neg hi] at wR;exact h3 i p wR) rfl ⟨l++news,by simpa using k2,by
    rw[b5n];exact dT.append _ _ (dT.aS (λ _ h=>h) (λ b hb=>cw b (.inl hb)) _ m2) (dT.aS (λ _ h=>h) (λ b hb=>cw b (.inl hb)) _ k5),by rw[b0E];exact k6⟩ rfl (.inl rfl) (λ b hb=>by
  have bK:=(k2.lt b (a9N.trans hb)).2;have yj:eb (G.η id)=some b\/b=w.heap.size:=by
   rw[<-a9N,] at hb;rcases k4 with q|q
   .left;rw[<-TA,<-q];exact hb
   .right;rw[q] at hb;exact (b6l hb).symm
  refine⟨?_,?_,bK,λ j p hjp Tx=>?_,λ j kL ng PA Tx=>?_⟩
  .rcases yj with q|q
   .exact (eF b q).1
   .have:=h.aS.size;omega
  .rcases yj with q|q
   .exact (eF b q).2.1
   .intro hs;have:=h.dE b hs;omega
  .by_cases uP:j=id
   .simp[uP] at hjp
   .rw[b3H uP,eh] at hjp;simp only[b4t] at hjp;obtain⟨o',cO,_⟩:=hjp;rcases yj with q|q
    .exact uP (h.apart j id o' _ b cO aZ Tx q)
    .have:=(h.place j o' b cO Tx).2.2;omega
  .by_cases uP:j=id
   .simp[uP] at PA
   .rw[b3H uP,eh] at PA;obtain⟨_,_,q3,q4⟩:=h.aR.pl j kL ng b (jy PA) Tx;rcases yj with q|q
    .exact q4 id _ aZ q
    .omega)
 refine⟨v',w',⟨G.S,λ i=>if i=id then v' else G.η i,G.φ⟩,k1,?_⟩;unfold Inv;have cr:ai.ah { aC:=(s.cp id).aC.set d (.row id),aK:=(id, .row e τ (xs++ys))::bR id (s.cp id).aK }=λ i=>if i=id then some (.row e τ (xs++ys)) else (if i=id then none else (s.cp id).ah i):=by
  funext i;show ah (_::bR id (s.cp id).aK) i=_;rw[dC,eH];rfl
 have E5:ai.sl { aC:=(s.cp id).aC.set d (.row id),aK:=(id, .row e τ (xs++ys))::bR id (s.cp id).aK }=jP s.aC.length (s.cp id).sl (some d) (.row id):=by
  have:=qG (s.cp id).aC d (.row id) ((id, .row e τ (xs++ys))::bR id (s.cp id).aK);rw[show (s.cp id).aC.length=s.aC.length from by simp[ai.cp]] at this;exact this
 rw[E5,cr,show ({ aC:=(s.cp id).aC.set d (.row id),aK:=(id, .row e τ (xs++ys))::bR id (s.cp id).aK }:ai).aC.length=s.aC.length from by simp[ai.cp]];refine bu.put h5 ⟨by simp,by simp[isRow],?_⟩;rcases k2.2 with ⟨rfl,_⟩|⟨g,cap,cur,rfl,_⟩
 .exact⟨_,_,_,rfl⟩
 .exact⟨_,_,_,rfl⟩
end
section
variable {c:Ctx} {G:Gh} {sl:Nat->AV} {n:Nat} {lk:Nat->Option aA} {a:Act} {w w':World}
theorem bu.W2(h:bu c G sl n lk a w)(id:Nat)(τ:Ty)(xs:List τ.den)(η0:Value)(fp:List Nat)(aZ:lk id=none)(hs:∀ i,(sl i).refs id=false)(ho:∀ i o,lk i=some o->o.refs id=false)
  (b1T:c.R id=none) (hT:iq w η0 τ xs fp) (cQ:fp.Nodup) (hpl:∀ b∈fp,(c.w0.heap.size<=b\/c.X b)/\¬ G.S b/\b<w.heap.size/\(∀ i o,lk i=some o->eb (G.η i)≠some b)/\∀ j τ xs,lk j=some (.aw τ xs)->b∉G.φ j) :
  bu c ⟨G.S,λ i=>if i=id then η0 else G.η i,λ i=>if i=id then fp else G.φ i⟩ sl n (λ i=>if i=id then some (.aw τ xs) else lk i) a w:=by
 have eR:∀ j,j≠id->eJ (lk j) ((λ i=>if i=id then some (aA.aw τ xs) else lk i) j)/\(if j=id then η0 else G.η j)=G.η j:=λ j hj=>by simp only[b3H hj];exact⟨eJ.refl _,ae⟩
 have Pv:eb η0=none:=by
  obtain⟨v,l,_,_,h1,_⟩:=hT;rw[h1];rfl
 have jq:∀ i b,eb (if i=id then η0 else G.η i)=some b->i≠id/\eb (G.η i)=some b:=λ i b hb=>by
  by_cases hi:i=id
  .rw[b4d hi,Pv] at hb;cases hb
  .rw[b3H hi] at hb;exact⟨hi,hb⟩
 have hold:∀ j bf cR,(if j=id then some (aA.aw τ xs) else lk j)=some (.aw bf cR)->j≠id->lk j=some (.aw bf cR):=λ j bf cR k hj=>by rwa [b3H hj] at k
 exact {
  defers:=h.defers,size:=h.size,aS:=h.aS,jE:=h.jE,ez:=h.ez,sX:=h.sX,dE:=h.dE
  aC:=λ i=>(h.aC i).mono (λ j hj=>eR j (λ e=>by subst e;rw[hs i] at hj;cases hj)) (λ _ h=>h) (λ _ _=>rfl)
  aK:=λ i o' cF=>by
   by_cases hi:i=id
   .subst hi;simp only[b5u,b3t] at cF;subst cF;trivial
   .simp only[b3H hi] at cF;exact (h.aK i o' cF).mono (by simp only[b3H hi]) (λ _ _=>rfl) (λ j hj=>eR j (λ e=>by subst e;rw[ho i o' cF] at hj;cases hj)) (λ _ h=>h) (λ _ _=>rfl)
  place:=λ i o' b cF hb=>by
   obtain⟨hi,hb⟩:=jq i b hb;simp only[b3H hi] at cF;exact h.place i o' b cF hb
  apart:=λ i j o1 o2 b cF Na hb cz=>by
   obtain⟨hi,hb⟩:=jq i b hb;obtain⟨hj,cz⟩:=jq j b cz;simp only[b3H hi] at cF;simp only[b3H hj] at Na;exact h.apart i j o1 o2 b cF Na hb cz
  aR:={
   tr:=λ j bf cR k=>by
    by_cases hj:j=id
    .subst hj;simp only[b5u,b3t,aA.aw.injEq] at k ⊢;obtain⟨rfl,k⟩:=k;have k:=b6H k;subst k;exact hT
    .simp only[b3H hj];exact h.aR.tr j bf cR (hold j bf cR k hj)
   nd:=λ j bf cR k=>by
    by_cases hj:j=id
    .simp only[b4d hj];exact cQ
    .simp only[b3H hj];exact h.aR.nd j bf cR (hold j bf cR k hj)
   pl:=λ j bf cR b k hb=>by
    have fin:(∀ i o,lk i=some o->eb (G.η i)≠some b)->∀ i o,(if i=id then some (aA.aw τ xs) else lk i)=some o->eb (if i=id then η0 else G.η i)≠some b:=λ hh i o cF e=>by
     obtain⟨hi,e⟩:=jq i b e;rw[b3H hi] at cF;exact hh i o cF e
    by_cases hj:j=id
    .simp only[b4d hj] at hb;obtain⟨q1,q2,q3,q4,q5⟩:=hpl b hb;exact⟨q1,q2,q3,fin q4⟩
    .simp only[b3H hj] at hb;obtain⟨q1,q2,q3,q4⟩:=h.aR.pl j bf cR b (hold j bf cR k hj) hb;exact⟨q1,q2,q3,fin q4⟩
   ap:=λ j j' Yp kL Yo ng b k k' hb cz=>by
    by_cases hj:j=id
    .by_cases Iw:j'=id
     .rw[hj,Iw]
     .simp only[b4d hj] at hb;simp only[b3H Iw] at cz;exact absurd cz ((hpl b hb).2.2.2.2 j' kL ng (hold j' kL ng k' Iw))
    .by_cases Iw:j'=id
     .simp only[b3H hj] at hb;simp only[b4d Iw] at cz;exact absurd hb ((hpl b cz).2.2.2.2 j Yp Yo (hold j Yp Yo k hj))
     .simp only[b3H hj] at hb;simp only[b3H Iw] at cz;exact h.aR.ap j j' Yp kL Yo ng b (hold j Yp Yo k hj) (hold j' kL ng k' Iw) hb cz }
  root:=λ j v hr ht=>by
   have eQ:j≠id:=λ e=>by subst e;rw[b1T] at hr;cases hr
   simp only[b3H eQ] at ht ⊢;exact h.root j v hr ht
  iO:=h.iO
  du:=λ j v hr ht=>by
   by_cases hj:j=id
   .simp only[b4d hj] at ht;cases ht
   .simp only[b3H hj] at ht ⊢;exact h.du j v hr ht
  fc:=h.fc }
def wJ(c:Ctx)(G:Gh)(lk:Nat->Option aA)(w:World)(b:Nat):Prop :=
 (c.w0.heap.size<=b\/c.X b)/\¬ G.S b/\b<w.heap.size/\(∀ i o,lk i=some o->eb (G.η i)≠some b)/\∀ j τ xs,lk j=some (.aw τ xs)->b∉G.φ j
structure Lk(c:Ctx)(G:Gh)(lk lk':Nat->Option aA)(w w':World)(qK:Nat->Value)(oZ:Nat->List Nat)(I:Nat->Prop):Prop where
 same:∀ id,¬ I id->lk' id=lk id/\qK id=G.η id/\oZ id=G.φ id
 aw:∀ id,I id->∃ τ xs cR v l l',lk id=some (.aw τ xs)/\lk' id=some (.aw τ cR)/\G.η id = .tuple (v::l).toArray/\qK id = .tuple (v::l').toArray/\iq w' (qK id) τ cR (oZ id)/\(oZ id).Nodup
 a9y:∀ id b,I id->b∈oZ id->(∃ dx,I dx/\b∈G.φ dx)\/wJ c G lk w' b
 apart:∀ id dx b,I id->I dx->b∈oZ id->b∈oZ dx->id=dx
 heap:∀ b,b<w.heap.size->(∀ id,I id->b∉G.φ id)->w'.heap[b]?=w.heap[b]?
 os:w'.os=w.os
 tape:w'.tape=w.tape
 output:w'.output=w.output
 size:w.heap.size<=w'.heap.size
theorem wJ.grow{lk:Nat->Option aA}{b:Nat}(h:wJ c G lk w b)(hs:w.heap.size<=w'.heap.size):wJ c G lk w' b :=
 ⟨h.1,h.2.1,b3P h.2.2.1 hs,h.2.2.2⟩
theorem Lk.b1d{qK:Nat->Value}{oZ:Nat->List Nat}{I:Nat->Prop}{lk':Nat->Option aA}(t:Lk c G lk lk' w w' qK oZ I)(id:Nat):eJ (lk id) (lk' id):=by
 by_cases hi:I id
 .obtain⟨τ,xs,cR,_,_,_,h1,h2,_⟩:=t.aw id hi;rw[h1,h2];exact⟨λ h=>(by cases h),(λ e τ xs h=>by cases h),(λ _=>rfl),λ hh=>by cases hh⟩
 .rw[(t.same id hi).1];exact eJ.refl _
theorem C1.fe{qK:Nat->Value}{oZ:Nat->List Nat}{I:Nat->Prop}{lk':Nat->Option aA}(t:Lk c G lk lk' w w' qK oZ I)(cw:∀ b,St c G.S b->w'.heap[b]?=w.heap[b]?){u:AV}{x:Value}(hu:u.QC=false)(h:C1 c G lk w u x):C1 c ⟨G.S,qK,oZ⟩ lk' w' u x:=by
 have key:(∀ id,u.refs id=true->¬ I id)->C1 c ⟨G.S,qK,oZ⟩ lk' w' u x:=λ hk=>h.mono (λ id aZ=>⟨t.b1d id,(t.same id (hk id aZ)).2.1⟩) (λ _ h=>h) cw;have noT:∀ id,cx (lk id)=false->¬ I id:=λ id hn hi=>by
  obtain⟨τ,xs,_,_,_,_,h1,_⟩:=t.aw id hi;rw[h1] at hn;cases hn
 cases u with
 | aw id =>
  obtain⟨h1,l,h2,h3⟩:=h;by_cases hi:I id
  .obtain⟨τ,xs,cR,v,l0,l',k1,k2,k3,k4,_⟩:=t.aw id hi;rw[k3] at h2;simp only[b5a,b6Z,b3F] at h2;obtain⟨rfl,_⟩:=h2;exact⟨by rw[k2];rfl,l',k4,h3⟩
  .exact key λ j hj=>by
    have:=b3x (show Nat.beq id j=true from hj);subst this;exact hi
 | eP id i off sz =>
  obtain⟨h1,b,n,cap,l,h2,h3⟩:=h;by_cases hi:I id
  .obtain⟨τ,xs,cR,v,l0,l',k1,k2,k3,k4,_⟩:=t.aw id hi;rw[k3] at h2;simp only[b5a,b6Z,b3F] at h2;obtain⟨rfl,_⟩:=h2;exact⟨by rw[k2];rfl,b,n,cap,l',k4,h3⟩
  .exact key λ j hj=>by
    have:=b3x (show Nat.beq id j=true from hj);subst this;exact hi
 | sub id i off sz=>cases hu
 | ptr id off =>
  refine key λ j hj=>?_;have:=b3x (show Nat.beq id j=true from hj);subst this;obtain⟨_,_,_,h3⟩:=h;exact noT id (by match hl:lk id,h3 with|some (.box _),_=>rfl)
 | row id =>
  refine key λ j hj=>?_;have:=b3x (show Nat.beq id j=true from hj);subst this;exact noT id (sT h.2.1)
 | eG id i off =>
  refine key λ j hj=>?_;have:=b3x (show Nat.beq id j=true from hj);subst this;obtain⟨_,_,_,_,_,_,_,h3,_⟩:=h;exact noT id (by rw[h3];rfl)
 | mp id =>
  refine key λ j hj=>?_;have:=b3x (show Nat.beq id j=true from hj);subst this;exact noT id (LI h.2.1)
 | agg cs=>exact h.elim
 | iP cs=>exact h.elim
 | c9 f cs=>exact h.elim
 | _=>exact key λ j hj=>by cases hj
theorem oV:∀ {cs:List AV} {v:AV},AV.oU cs=false->v∈cs->v.QC=false
 | u::r,v,h,hm=>by
  simp only[AV.oU] at h;split at h
  .cases h
  .rename_i hu;rcases b3S.1 hm with rfl|hm
   .exact hu
   .exact oV h hm
theorem CR.fe{qK:Nat->Value}{oZ:Nat->List Nat}{I:Nat->Prop}{lk':Nat->Option aA}(t:Lk c G lk lk' w w' qK oZ I)(cw:∀ b,St c G.S b->w'.heap[b]?=w.heap[b]?){u:AV}{x:Value}(hu:u.QC=false)(h:CR c G lk w u x):CR c ⟨G.S,qK,oZ⟩ lk' w' u x:=by
 cases u with
 | aF v=>exact dZ.mono (G:=G) (G':=⟨G.S,qK,oZ⟩) h (λ _ h=>h) (λ b hb=>cw b (.inl hb))
 | agg cs =>
  obtain⟨l,h1,h2⟩:=h;exact⟨l,h1,h2.imp λ u y hm hy=>hy.fe t cw (oV (show AV.oU cs=false from hu) hm)⟩
 | _=>exact C1.a2s (C1.fe t cw hu h)
theorem VR.fe{qK:Nat->Value}{oZ:Nat->List Nat}{I:Nat->Prop}{lk':Nat->Option aA}(t:Lk c G lk lk' w w' qK oZ I)(cw:∀ b,St c G.S b->w'.heap[b]?=w.heap[b]?){u:AV}{x:Value}(hu:u.QC=false)(h:VR c G lk w u x):VR c ⟨G.S,qK,oZ⟩ lk' w' u x:=by
 cases u with
 | aF v=>exact dZ.mono (G:=G) (G':=⟨G.S,qK,oZ⟩) h (λ _ h=>h) (λ b hb=>cw b (.inl hb))
 | agg cs =>
  obtain⟨l,h1,h2⟩:=h;exact⟨l,h1,h2.imp λ u y hm hy=>hy.fe t cw (oV (show AV.oU cs=false from hu) hm)⟩
 | iP vs =>
  obtain⟨l,h1,h2⟩:=h;refine⟨l,h1,h2.imp λ u y hm hy=>?_⟩;have hu':=oV (show AV.oU vs=false from hu) hm;cases u with
  | any=>trivial
  | aF v=>exact dZ.mono (G:=G) (G':=⟨G.S,qK,oZ⟩) hy (λ _ h=>h) (λ b hb=>cw b (.inl hb))
  | aw i=>exact C1.fe (u := .aw i) t cw rfl hy
  | cZ v=>exact C1.fe (u := .cZ v) t cw rfl hy
  | agg cs =>
   obtain⟨l,h1,h2⟩:=hy;exact⟨l,h1,h2.imp λ u y hm hy=>hy.fe t cw (oV (show AV.oU cs=false from hu') hm)⟩
  | _=>exact hy.elim
 | any=>trivial
 | ei=>exact h
 | nil=>exact (C1.fe (u := .nil) t cw hu h).fT
 | cZ u=>exact (C1.fe (u := .cZ u) t cw hu h).fT
 | ptr i o=>exact (C1.fe (u := .ptr i o) t cw hu h).fT
 | row i=>exact (C1.fe (u := .row i) t cw hu h).fT
 | eG i k o=>exact (C1.fe (u := .eG i k o) t cw hu h).fT
 | fn f=>exact (C1.fe (u := .fn f) t cw hu h).fT
 | aw i=>exact (C1.fe (u := .aw i) t cw hu h).fT
 | sub i k o z=>cases hu
 | mp i=>exact (C1.fe (u := .mp i) t cw hu h).fT
 | eP i k o z=>exact (C1.fe (u := .eP i k o z) t cw hu h).fT
 | iC v=>exact (C1.fe (u := .iC v) t cw hu h).fT
 | c9 f cs =>
  obtain⟨l,h1,h2⟩:=h;exact⟨l,h1,h2.imp λ u y hm hy=>hy.fe t cw (oV (show AV.oU cs=false from hu) hm)⟩
theorem bu.fe(h:bu c G sl n lk a w){qK:Nat->Value}{oZ:Nat->List Nat}{I:Nat->Prop}{lk':Nat->Option aA}(t:Lk c G lk lk' w w' qK oZ I)(hs:∀ i,(sl i).QC=false)(Ri:∀ id cs,lk id=some (.box cs)->AV.oU cs=false) :
  bu c ⟨G.S,qK,oZ⟩ sl n lk' a w':=by
 have pl:∀ id b,I id->b∈G.φ id->(c.w0.heap.size<=b\/c.X b)/\¬ G.S b/\b<w.heap.size/\∀ i o,lk i=some o->eb (G.η i)≠some b:=λ id b hi hb=>by
  obtain⟨τ,xs,_,_,_,_,h1,_⟩:=t.aw id hi;exact h.aR.pl id τ xs b h1 hb
 have a4t:∀ b,b<w.heap.size->((c.w0.heap.size<=b\/c.X b)->False)->w'.heap[b]?=w.heap[b]?:=λ b hb hn=>t.heap b hb λ id hi iD=>hn (pl id b hi iD).1;have cw:∀ b,St c G.S b->w'.heap[b]?=w.heap[b]?:=λ b hb=>by
  rcases hb with hb|hb
  .exact t.heap b (h.dE b hb) λ id hi iD=>(pl id b hi iD).2.1 hb
  .exact a4t b (b3P hb.1 h.aS.size) λ hn=>hn.elim (λ q=>by omega) hb.2.1
 have jq:∀ id o b,lk id=some o->eb (G.η id)=some b->w'.heap[b]?=w.heap[b]?:=λ id o b ho hb =>
  t.heap b (h.place id o b ho hb).2.2 λ j hj iD=>(pl j b hj iD).2.2.2 id o ho hb
 have eu:∀ id b,eb (qK id)=some b->¬ I id/\eb (G.η id)=some b:=λ id b hb=>by
  by_cases hi:I id
  .obtain⟨_,_,_,_,_,_,_,_,_,h4,_⟩:=t.aw id hi;rw[h4] at hb;cases hb
  .rw[(t.same id hi).2.1] at hb;exact⟨hi,hb⟩
 have lY:∀ id τ xs b,lk' id=some (.aw τ xs)->b∈oZ id->(∃ dx bf cR,lk dx=some (.aw bf cR)/\b∈G.φ dx/\(¬ I id->dx=id)/\(I id->I dx))\/(I id/\wJ c G lk w' b):=λ id τ xs b aZ hb=>by
  by_cases hi:I id
  .rcases t.a9y id b hi hb with ⟨dx,lZ,cz⟩|hfr
   .obtain⟨bf,cR,_,_,_,_,h1,_⟩:=t.aw dx lZ;exact .inl ⟨dx,bf,cR,h1,cz,λ hn=>absurd hi hn,λ _=>lZ⟩
   .exact .inr ⟨hi,hfr⟩
  .obtain⟨h1,h2,h3⟩:=t.same id hi;rw[h1] at aZ;rw[h3] at hb;exact .inl ⟨id,τ,xs,aZ,hb,λ _=>rfl,λ lZ=>absurd lZ hi⟩
 exact {
  defers:=h.defers,size:=h.size
  aS:=h.aS.trans (Y:=λ b=>c.w0.heap.size<=b\/c.X b) ⟨t.os,t.tape,t.output,t.size,λ b hb hn=>a4t b hb hn⟩ λ i hi hy=>hy.elim (λ q=>by omega) id
  jE:=h.jE,ez:=h.ez,sX:=h.sX
  dE:=λ b hb=>b3P (h.dE b hb) t.size
  aC:=λ i=>(h.aC i).fe t cw (hs i)
  aK:=λ id o aZ=>by
   by_cases hi:I id
   .obtain⟨τ,xs,cR,_,_,_,_,h2,_⟩:=t.aw id hi;rw[h2] at aZ;simp only[b3t] at aZ;subst aZ;trivial
   .obtain⟨h1,h2,h3⟩:=t.same id hi;rw[h1] at aZ;have ho:=h.aK id o aZ;cases o with
    | box cs =>
     obtain⟨b,l,ty,k1,k2,k3⟩:=ho;refine⟨b,l,ty,h2.trans k1,?_,k3.imp λ u y hm hy=>hy.fe t cw (oV (Ri id cs aZ) hm)⟩;rw[jq id _ b aZ (by rw[k1];rfl)];exact k2
    | row e τ xs =>
     obtain⟨l,k1,k2,k3⟩:=ho;refine⟨l,?_,dT.aS (λ _ h=>h) (λ b hb=>cw b (.inl hb)) _ k2,k3⟩;rw[show (⟨G.S,qK,oZ⟩:Gh).η id=G.η id from h2];exact LN k1 λ b hb=>jq id _ b aZ hb
    | aw τ xs=>trivial
    | map m =>
     obtain⟨b,es,clock,k1,k2,k3⟩:=ho;exact⟨b,es,clock,h2.trans k1,(jq id _ b aZ (by rw[k1];rfl)).trans k2,k3⟩
  place:=λ id o b aZ hb=>by
   obtain⟨hi,hb⟩:=eu id b hb;rw[(t.same id hi).1] at aZ;obtain⟨q1,q2,q3⟩:=h.place id o b aZ hb;exact⟨q1,q2,b3P q3 t.size⟩
  apart:=λ id dx o o' b aZ Iv hb cz=>by
   obtain⟨hi,hb⟩:=eu id b hb;obtain⟨lZ,cz⟩:=eu dx b cz;rw[(t.same id hi).1] at aZ;rw[(t.same dx lZ).1] at Iv;exact h.apart id dx o o' b aZ Iv hb cz
  aR:={
   tr:=λ id τ xs aZ=>by
    by_cases hi:I id
    .obtain⟨τ0,xs0,cR,v,l,l',h1,h2,h3,h4,h5,h6⟩:=t.aw id hi;rw[h2] at aZ;simp only[b3t,aA.aw.injEq] at aZ;obtain⟨rfl,aZ⟩:=aZ;have aZ:=b6H aZ;subst aZ;exact h5
    .obtain⟨h1,h2,h3⟩:=t.same id hi;rw[h1] at aZ;rw[show (⟨G.S,qK,oZ⟩:Gh).η id=G.η id from h2,show (⟨G.S,qK,oZ⟩:Gh).φ id=G.φ id from h3];exact (h.aR.tr id τ xs aZ).aS λ b hb=>t.heap b (h.aR.pl id τ xs b aZ hb).2.2.1 λ j hj iD=>by
      obtain⟨bf,cR,_,_,_,_,k1,_⟩:=t.aw j hj;have:=h.aR.ap id j τ bf xs cR b aZ k1 hb iD;subst this;exact hi hj
   nd:=λ id τ xs aZ=>by
    by_cases hi:I id
    .obtain⟨_,_,_,_,_,_,_,_,_,_,_,h6⟩:=t.aw id hi;exact h6
    .obtain⟨h1,h2,h3⟩:=t.same id hi;rw[h1] at aZ;rw[show (⟨G.S,qK,oZ⟩:Gh).φ id=G.φ id from h3];exact h.aR.nd id τ xs aZ
   pl:=λ id τ xs b aZ hb=>by
    have hq:(c.w0.heap.size<=b\/c.X b)/\¬ G.S b/\b<w'.heap.size/\∀ i o,lk i=some o->eb (G.η i)≠some b:=by
     rcases lY id τ xs b aZ hb with ⟨dx,bf,cR,k1,k2,_⟩|⟨_,f1,f2,f3,f4,_⟩
     .obtain⟨f1,f2,f3,f4⟩:=h.aR.pl dx bf cR b k1 k2;exact⟨f1,f2,b3P f3 t.size,f4⟩
     .exact⟨f1,f2,f3,f4⟩
    obtain⟨q1,q2,q3,q4⟩:=hq;refine⟨q1,q2,q3,λ i o cF p7=>?_⟩;obtain⟨hi,p7⟩:=eu i b p7;rw[(t.same i hi).1] at cF;exact q4 i o cF p7
   ap:=λ id dx τ bf xs cR b aZ Iv hb cz=>by
    by_cases hi:I id
    .by_cases lZ:I dx
     .exact t.apart id dx b hi lZ hb cz
     .rcases lY dx bf cR b Iv cz with ⟨j',kL,ng,m1,m2,m3,_⟩|⟨q,_⟩
      .rcases lY id τ xs b aZ hb with ⟨j,Yp,Yo,k1,k2,_,k4⟩|⟨_,hfr⟩
       .have:=h.aR.ap j j' _ _ _ _ b k1 m1 k2 m2;have e:=m3 lZ;subst e this;exact absurd (k4 hi) lZ
       .exact absurd m2 (hfr.2.2.2.2 j' kL ng m1)
      .exact absurd q lZ
    .by_cases lZ:I dx
     .rcases lY id τ xs b aZ hb with ⟨j,Yp,Yo,k1,k2,k3,_⟩|⟨q,_⟩
      .rcases lY dx bf cR b Iv cz with ⟨j',kL,ng,m1,m2,_,m4⟩|⟨_,hfr⟩
       .have:=h.aR.ap j j' _ _ _ _ b k1 m1 k2 m2;have e:=k3 hi;subst e this;exact absurd (m4 lZ) hi
       .exact absurd k2 (hfr.2.2.2.2 j Yp Yo k1)
      .exact absurd q hi
     .rcases lY id τ xs b aZ hb with ⟨j,Yp,Yo,k1,k2,k3,_⟩|⟨q,_⟩
      .rcases lY dx bf cR b Iv cz with ⟨j',kL,ng,m1,m2,m3,_⟩|⟨q,_⟩
       .have:=h.aR.ap j j' _ _ _ _ b k1 m1 k2 m2;exact (k3 hi).symm.trans (this.trans (m3 lZ))
       .exact absurd q lZ
      .exact absurd q hi }
  root:=λ id v hr ht=>by
   by_cases hi:I id
   .obtain⟨τ,xs,cR,v0,l,l',k1,k2,k3,k4,_⟩:=t.aw id hi;obtain⟨l2,h2⟩:=h.root id v hr (by rw[k1];rfl);rw[k3] at h2;simp only[b5a,b6Z,b3F] at h2;obtain⟨rfl,_⟩:=h2;exact⟨l',k4⟩
   .obtain⟨h1,h2,_⟩:=t.same id hi;rw[h1] at ht;rw[show (⟨G.S,qK,oZ⟩:Gh).η id=G.η id from h2];exact h.root id v hr ht
  iO:=h.iO
  du:=λ id v hr ht=>by
   by_cases hi:I id
   .obtain⟨τ,xs,cR,v0,l,l',k1,k2,k3,k4,_⟩:=t.aw id hi;rw[k2] at ht;cases ht
   .obtain⟨h1,h2,_⟩:=t.same id hi;rw[h1] at ht;rw[show (⟨G.S,qK,oZ⟩:Gh).η id=G.η id from h2];exact h.du id v hr ht
  fc:=h.fc }
theorem bu.W6(h:bu c G sl n lk a w){d:Nat}(hd:lk d=none):(∀ i,(sl i).refs d=false)/\∀ i o,lk i=some o->o.refs d=false:=by
 have c1:∀ (v:AV) (x:Value),C1 c G lk w v x->v.refs d=true->False:=λ v x hv hr=>by
  have gm:∀ i,Nat.beq i d=true->gf (lk i)=false/\isRow (lk i)=false/\cx (lk i)=false/\∀ e τ xs,lk i≠some (.row e τ xs):=λ i hi=>by
   have:=b3x hi;subst this;rw[hd];exact⟨rfl,rfl,rfl,λ _ _ _=>by simp⟩
  cases v with
  | ptr i o=>obtain⟨_,_,_,h3⟩:=hv;rw[(gm i hr).1] at h3;cases h3
  | row i=>obtain⟨_,h3,_⟩:=hv;rw[(gm i hr).2.1] at h3;cases h3
  | eG i k o=>obtain⟨_,_,_,_,_,_,_,h3,_⟩:=hv;exact (gm i hr).2.2.2 _ _ _ h3
  | aw i=>have h3:=hv.1;rw[(gm i hr).2.2.1] at h3;cases h3
  | sub i k o z=>have h3:=hv.1;rw[(gm i hr).2.2.1] at h3;cases h3
  | eP i k o z=>have h3:=hv.1;rw[(gm i hr).2.2.1] at h3;cases h3
  | mp i =>
   have h3:=hv.2.1;have:=b3x (show Nat.beq i d=true from hr);subst this;rw[hd] at h3;cases h3
  | agg cs=>exact hv
  | iP cs=>exact hv
  | c9 f cs=>exact hv
  | _=>cases hr
 have cL:∀ (cs:List AV) (l:List Value),aT (C1 c G lk w) cs l->AV.gh d cs=true->False:=by
  intro cs;induction cs with
  | nil=>intro l _ hr;cases hr
  | cons v r ih =>
   intro l hl hr;match l,hl with
   | x::l,hl =>
    simp only[AV.gh] at hr;split at hr
    .rename_i hv;exact c1 v x hl.1 hv
    .exact ih l hl.2 hr
 refine⟨λ i=>?_,λ i o ho=>?_⟩
 .cases hr:(
        sl i).refs d with
  | false=>rfl
  | true =>
   have hv:=h.aC i;revert hv hr;generalize a.tmps.getD i undef=x;cases sl i with
   | aF u=>intro hr;cases hr
   | agg cs =>
    intro hr hv;obtain⟨l,_,hl⟩:=hv;exact (cL cs l hl hr).elim
   | iP vs =>
    intro hr hv;obtain⟨l,_,hl⟩:=hv;have:∀ (
         vs:List AV) (l:List Value),aT (TR c G lk w) vs l->AV.gh d vs=true->False:=by
     intro vs;induction vs with
     | nil=>intro l _ hr;cases hr
     | cons v r ih =>
      intro l hl hr;match l,hl with
      | x::l,hl =>
       simp only[AV.gh] at hr;split at hr
       .rename_i hv;have h1:=hl.1;cases v with
        | aw i=>exact c1 (.aw i) x h1 hv
        | agg cs =>
         obtain⟨l',_,nP⟩:=h1;exact cL cs l' nP hv
        | aF u=>cases hv
        | cZ u=>cases hv
        | any=>cases hv
        | _=>exact h1
       .exact ih l hl.2 hr
    exact (this vs l hl hr).elim
   | c9 f vs =>
    intro hr hv;obtain⟨l,_,hl⟩:=hv;have:∀ (vs:List AV) (l:List Value),aT (CR c G lk w) vs l->AV.gh d vs=true->False:=by
     intro vs;induction vs with
     | nil=>intro l _ hr;cases hr
     | cons v r ih =>
      intro l hl hr;match l,hl with
      | x::l,hl =>
       simp only[AV.gh] at hr;split at hr
       .rename_i hv;rcases hl.1.inv with ⟨u,rfl,_⟩|⟨cs,l',rfl,_,nP⟩|h1
        .cases hv
        .exact cL cs l' nP hv
        .exact c1 _ x h1 hv
       .exact ih l hl.2 hr
    exact (this vs l hl hr).elim
   | any=>intro hr;cases hr
   | ei=>intro hr;cases hr
   | nil=>intro hr;cases hr
   | cZ u=>intro hr;cases hr
   | fn f=>intro hr;cases hr
   | iC v=>intro hr;cases hr
   | ptr i o=>intro hr hv;exact (c1 (.ptr i o) x hv hr).elim
   | row i=>intro hr hv;exact (c1 (.row i) x hv hr).elim
   | eG i k o=>intro hr hv;exact (c1 (.eG i k o) x hv hr).elim
   | aw i=>intro hr hv;exact (c1 (.aw i) x hv hr).elim
   | sub i k o z=>intro hr hv;exact (c1 (.sub i k o z) x hv hr).elim
   | eP i k o z=>intro hr hv;exact (c1 (.eP i k o z) x hv hr).elim
   | mp i=>intro hr hv;exact (c1 (.mp i) x hv hr).elim
 .cases hr:o.refs d with
  | false=>rfl
  | true =>
   cases o with
   | row e τ xs=>cases hr
   | aw τ xs=>cases hr
   | map m=>cases hr
   | box cs =>
    obtain⟨b,l,t,_,_,k3⟩:=h.aK i _ ho;exact (cL cs l k3 hr).elim
structure Ext(G:Gh)(lk:Nat->Option aA)(G':Gh)(lk':Nat->Option aA):Prop where
 S:G'.S=G.S
 old:∀ i o,lk i=some o->lk' i=some o/\G'.η i=G.η i/\G'.φ i=G.φ i
theorem Ext.refl(G:Gh)(lk:Nat->Option aA):Ext G lk G lk:=⟨rfl,λ _ _ h=>⟨h,rfl,rfl⟩⟩
theorem Ext.trans{G1 G2 G3:Gh}{l1 l2 l3:Nat->Option aA}(h:Ext G1 l1 G2 l2)(k:Ext G2 l2 G3 l3):Ext G1 l1 G3 l3 :=
 ⟨k.S.trans h.S,λ i o ho=>by
  obtain⟨a1,a2,a3⟩:=h.old i o ho;obtain⟨b1,b2,b3⟩:=k.old i o a1;exact⟨b1,b2.trans a2,b3.trans a3⟩⟩
theorem C1.ext{G':Gh}{lk':Nat->Option aA}(e:Ext G lk G' lk'){v:AV}{x:Value}(h:C1 c G lk w v x):C1 c G' lk' w v x:=by
 refine h.mono (λ id aZ=>?_) (λ b hb=>by rw[e.S];exact hb) (λ _ _=>rfl);have eQ:lk id≠none:=λ hn=>by
  cases v with
  | ptr i o=>have:=b3x (show Nat.beq i id=true from aZ);subst this;obtain⟨_,_,_,h3⟩:=h;rw[hn] at h3;cases h3
  | row i=>have:=b3x (show Nat.beq i id=true from aZ);subst this;obtain⟨_,h3,_⟩:=h;rw[hn] at h3;cases h3
  | eG i k o=>have:=b3x (show Nat.beq i id=true from aZ);subst this;obtain⟨_,_,_,_,_,_,_,h3,_⟩:=h;rw[hn] at h3;cases h3
  | aw i=>have:=b3x (show Nat.beq i id=true from aZ);subst this;have h3:=h.1;rw[hn] at h3;cases h3
  | sub i k o z=>have:=b3x (show Nat.beq i id=true from aZ);subst this;have h3:=h.1;rw[hn] at h3;cases h3
  | eP i k o z=>have:=b3x (show Nat.beq i id=true from aZ);subst this;have h3:=h.1;rw[hn] at h3;cases h3
  | mp i=>have:=b3x (show Nat.beq i id=true from aZ);subst this;have h3:=h.2.1;rw[hn] at h3;cases h3
  | agg cs=>exact h
  | iP cs=>exact h
  | c9 f cs=>exact h
  | _=>cases aZ
 match hl:lk id,eQ with
 | some o,_ =>
  obtain⟨h1,h2,_⟩:=e.old id o hl;rw[h1];exact⟨eJ.refl _,h2⟩
def Fr(c:Ctx)(G:Gh)(lk:Nat->Option aA)(w:World)(fp:List Nat):Prop :=
 ∀ b∈fp,(c.w0.heap.size<=b\/c.X b)/\¬ G.S b/\b<w.heap.size/\(∀ i o,lk i=some o->eb (G.η i)≠some b)/\∀ j τ xs,lk j=some (.aw τ xs)->b∉G.φ j
def gw(news:List (Nat×aA))(lk:Nat->Option aA)(i:Nat):Option aA:=match ah news i with
 | some o=>some o
 | none=>lk i
theorem a7v(lk:Nat->Option aA):gw [] lk=lk:=rfl
theorem a5y(id:Nat)(o:aA)(r:List (Nat×aA))(lk:Nat->Option aA)(hr:ah r id=none):gw r (λ i=>if i=id then some o else lk i)=gw ((id,o)::r) lk:=by
 funext i;unfold gw;rw[dC];by_cases hi:i=id
 .subst hi;rw[hr];simp
 .simp[hi]
theorem SZ:∀ (r r':List (Nat×aA)) (lk:Nat->Option aA),gw (r++r') lk=gw r (gw r' lk)
 | [],r',lk=>rfl
 | (id,o)::r,r',lk=>by
  funext i;have:=congrFun (SZ r r' lk) i;unfold gw at this ⊢;rw[List.cons_append,dC,dC];by_cases hi:i=id
  .simp[hi]
  .simpa [hi] using this
theorem iq.a0w{τ:Ty}{xs:List τ.den}{x:Value}{fp:List Nat}(h:Ow w (.slice τ.size (xs.map τ.aP)) [x] fp):∃ l,iq w (.tuple (x::l).toArray) τ xs fp/\∃ a n m,x = .slice a n m:=by
 obtain⟨a',cap,h1,h2,h3,h4,h5⟩:=h;simp only[b3F,b3L,b3M] at h1 h2 h4;subst h1;rcases h5 with ⟨hx,ha,hf⟩|⟨b,f,l,t,ha,hf,k1,k2⟩
 .refine⟨[],⟨_,[],a',cap,rfl,rfl,h2,h3,h4, .inl ⟨?_,ha,hf⟩⟩,_,_,_,rfl⟩;simpa using hx
 .exact⟨l,⟨_,l,a',cap,rfl,rfl,h2,h3,h4, .inr ⟨b,f,t,ha,hf,k1,k2⟩⟩,_,_,_,rfl⟩
theorem Ow.a7B{η:Value}{τ:Ty}{xs:List τ.den}{fp:List Nat}(h:iq w η τ xs fp){x:Value}{l:List Value}(hx:η = .tuple (x::l).toArray):Ow w (.slice τ.size (xs.map τ.aP)) [x] fp:=by
 obtain⟨v,l',a',cap,h1,h2,h3,h4,h5,h6⟩:=h;rw[hx] at h1;simp only[Value.tuple.injEq,List.toArray_inj,List.cons.injEq] at h1;obtain⟨rfl,rfl⟩:=h1;refine⟨a',cap,by simp[h2],by simpa using h3,h4,by simpa using h5,?_⟩;rcases h6 with ⟨rfl,q1,q2⟩|⟨b,f,t,q1,q2,q3,q4⟩
 .exact .inl ⟨rfl,q1,q2⟩
 .exact .inr ⟨b,f,l,t,q1,q2,q3,q4⟩
theorem fB:∀ {l:List (Nat×aA)} {id:Nat} {o:aA},ah l id=some o->(id,o)∈l
 | (k,p)::r,id,o,h=>by
  simp only[ah] at h;split at h
  .rename_i hk;have hk:=b3x hk;simp only[b3t] at h;subst hk h;simp
  .exact b5c _ (fB h)
theorem bu.a6j(h:bu c G sl n lk a w){u:TV}(hu:u.τ.agg=false){x:Value}{fp:List Nat}{id:Nat}(hO:Ow w u.aP [x] fp)(cQ:fp.Nodup)(hF:Fr c G lk w fp)(aZ:∀ p∈fI id u,lk p.1=none)(hR:c.R id=none) :
  ∃ G',bu c G' sl n (gw (fI id u) lk) a w/\Ext G lk G' (gw (fI id u) lk)/\C1 c G' (gw (fI id u) lk) w (iN id u) x /\
   ∀ fq,Fr c G lk w fq->(∀ b∈fq,b∉fp)->Fr c G' (gw (fI id u) lk) w fq:=by
 have wI:(fI id u=[]/\iN id u = .aF u)->∃ G',bu c G' sl n (gw (fI id u) lk) a w/\Ext G lk G' (gw (fI id u) lk)/\C1 c G' (gw (fI id u) lk) w (iN id u) x /\
   ∀ fq,Fr c G lk w fq->(∀ b∈fq,b∉fp)->Fr c G' (gw (fI id u) lk) w fq:=by
  rintro⟨e1,e2⟩;rw[e1,e2];exact⟨G,h,Ext.refl _ _,⟨hu,hO.rd (S:=λ b=>b∈fp) _ (λ _ h=>h) |> λ hr=>by
   obtain⟨τ,y⟩:=u;cases τ with
   | slice t=>simp[fI] at e1
   | mv t=>simp[iN] at e2
   | ptr=>exact hr
   | st s=>cases hu
   | int k=>exact hr
   | bool=>exact hr
   | str=>exact hr⟩,λ fq hq _=>hq⟩
 obtain⟨τ,y⟩:=u;cases τ with
 | mv t=>exact⟨G,h,Ext.refl _ _,ae,λ fq hq _=>hq⟩
 | slice t =>
  obtain⟨l,hT,E5⟩:=iq.a0w (τ:=t) (xs:=y) hO;have hn:lk id=none:=aZ (id, .aw t y) (by simp[fI]);obtain⟨TB,hr2⟩:=h.W6 hn;have hI:=h.W2 id t y _ fp hn TB hr2 hR hT cQ hF;have cr:gw (fI id ⟨.slice t,y⟩) lk=λ i=>if i=id then some (.aw t y) else lk i:=by
   rw[<-a7v (λ i=>if i=id then some (aA.aw t y) else lk i),a5y id _ [] lk rfl];rfl
  rw[cr];refine⟨_,hI,⟨rfl,λ i o ho=>?_⟩,⟨by simp[cx],l,by simp,E5⟩,λ fq hq AG b hb=>?_⟩
  .have hi:i≠id:=λ e=>by subst e;rw[hn] at ho;cases ho
   simp[hi,ho]
  .obtain⟨q1,q2,q3,q4,q5⟩:=hq b hb;refine⟨q1,q2,q3,λ i o cF e=>?_,λ j τ xs hj=>?_⟩
   .by_cases hi:i=id
    .simp only[b4d hi] at e;cases e
    .simp only[b3H hi] at cF e;exact q4 i o cF e
   .by_cases hi:j=id
    .simp only[b4d hi];exact AG b hb
    .simp only[b3H hi] at hj ⊢;exact q5 j τ xs hj
 | st s=>cases hu
 | ptr=>exact wI ⟨rfl,rfl⟩
 | int k=>exact wI ⟨rfl,rfl⟩
 | bool=>exact wI ⟨rfl,rfl⟩
 | str=>exact wI ⟨rfl,rfl⟩
theorem S3{id:Nat}{u:TV}{p:Nat×aA}(h:p∈fI id u):p.1=id:=by
 obtain⟨τ,y⟩:=u;cases τ<;>simp[fI] at h;rw[h]
theorem WI{r:List (Nat×aA)}{i:Nat}(h:∀ p∈r,p.1≠i):ah r i=none:=by
 induction r with
 | nil=>rfl
 | cons p r ih =>
  obtain⟨k,o⟩:=p;rw[dC,b3H (λ e=>h (k,o) (by simp) e.symm)];exact ih λ q hq=>h q (by simp[hq])
theorem bu.Ct:∀ {us:List TV} {cs:List Value} {fp:List Nat} {id:Nat} {G:Gh} {lk:Nat->Option aA},bu c G sl n lk a w->(∀ u∈us,u.τ.agg=false)->cT w (us.map TV.aP) cs fp->fp.Nodup->Fr c G lk w fp ->
  (∀ p∈bZ id us,lk p.1=none)->((bZ id us).map (·.1)).Nodup->(∀ j,id<=j->c.R j=none) ->
  ∃ G' lk',(∀ i,lk' i=gw (bZ id us) lk i)/\bu c G' sl n lk' a w/\Ext G lk G' lk'/\aT (C1 c G' lk' w) (ca id us) cs/\∀ fq,Fr c G lk w fq->(∀ b∈fq,b∉fp)->Fr c G' lk' w fq
 | [],cs,fp,id,G,lk,h,_,hO,_,_,_,_,_=>by
  obtain⟨rfl,rfl⟩:=hO;exact⟨G,lk,λ _=>rfl,h,Ext.refl _ _,ae,λ fq hq _=>hq⟩
 | u::us,cs,fp,id,G,lk,h,hu,hO,cQ,hF,aZ,qT,hR=>by
  obtain⟨v,r,f1,f2,rfl,rfl,h1,h2⟩:=hO;rw[b4a] at cQ;obtain⟨nd1,nd2,nd3⟩:=cQ;simp only[bZ,b5n] at qT;rw[b4a] at qT;obtain⟨d1,d2,d3⟩:=qT;obtain⟨G1,i1,e1,c1,fr1⟩:=h.a6j (id:=id) (hu u (by simp)) h1 nd1 (λ b hb=>hF b (by simp[hb])) (λ p hp=>aZ p (by simp[bZ,hp])) (hR id (b4h _));have eQ:∀ p∈bZ (id+1) us,ah (fI id u) p.1=none:=λ p hp=>WI λ q hq e=>d3 q.1 (b3E.2 ⟨q,hq,rfl⟩) p.1 (b3E.2 ⟨p,hp,rfl⟩) e;obtain⟨G2,lk2,k1,k2,k3,k4,k5⟩:=bu.Ct (us:=us) (cs:=r) (fp:=f2) (id:=id+1) i1 (λ u hu'=>hu u (by simp[hu'])) h2 nd2
   (fr1 f2 (λ b hb=>hF b (by simp[hb])) (λ b hb cz=>nd3 b cz b hb rfl)) (λ p hp=>by unfold gw;rw[eQ p hp];exact aZ p (by simp[bZ,hp])) d2 (λ j hj=>hR j (by omega))
  refine⟨G2,lk2,λ i=>?_,k2,e1.trans k3,⟨c1.ext k3,k4⟩,λ fq hq AG=>k5 fq (fr1 fq hq λ b hb cz=>AG b hb (by simp[cz])) λ b hb cz=>AG b hb (by simp[cz])⟩;rw[k1 i];simp only[bZ];unfold gw;have b1U:∀ (r r':List (Nat×aA)) (j:Nat),ah (r++r') j=match ah r j with|some o=>some o|none=>ah r' j:=by
   intro r r' j;induction r with
   | nil=>rfl
   | cons p r ih =>
    obtain⟨k,o⟩:=p;rw[b4M,dC,dC];by_cases hj:j=k
    .simp[hj]
    .simpa [hj] using ih
  rw[b1U];cases hx:ah (bZ (id+1) us) i with
  | none=>simp only[];cases ah (fI id u) i<;>rfl
  | some o =>
   simp only[];have hm:=fB hx;rw[eQ _ hm]
theorem L1(s:aQ)(y:s.den):∀ u∈s.cells y,u.τ.agg=false:=λ u hu=>by
 have:=aQ.po s y u hu;obtain⟨bf,z'⟩:=u;cases bf with
 | st s'=>simp[TV.aP,Ty.aP,aQ.ct,D.leaf] at this
 | _=>rfl
theorem TR.ext{G':Gh}{lk':Nat->Option aA}(e:Ext G lk G' lk'){v:AV}{x:Value}(h:TR c G lk w v x):TR c G' lk' w v x:=by
 cases v with
 | any=>trivial
 | aF v=>exact dZ.mono (G:=G) (G':=G') h (λ b hb=>by rw[e.S];exact hb) (λ _ _=>rfl)
 | aw i=>exact C1.ext (c:=c) (w:=w) (v := .aw i) e h
 | cZ v=>exact C1.ext (c:=c) (w:=w) (v := .cZ v) e h
 | agg cs =>
  obtain⟨l,h1,h2⟩:=h;exact⟨l,h1,h2.imp λ u y _ hy=>hy.ext e⟩
 | _=>exact h.elim
theorem TR.fT{v:AV}{x:Value}(h:TR c G lk w v x):VR c G lk w v x:=by
 cases v with
 | any=>trivial
 | aF v=>exact h
 | aw i=>exact h
 | cZ v=>exact h
 | agg cs=>exact h
 | _=>exact h.elim
theorem C1.b2L{id:Nat}{u:TV}{x:Value}(h:C1 c G lk w (iN id u) x)(hu:u.τ.agg=false):TR c G lk w (iN id u) x:=by
 obtain⟨τ,y⟩:=u;cases τ with
 | slice t=>exact h
 | mv t=>exact h
 | ptr=>exact h.2
 | st s=>cases hu
 | int k=>exact h.2
 | bool=>exact h.2
 | str=>exact h.2
theorem bu.Uu{v:TV}{x:Value}{fp:List Nat}{id:Nat}{G:Gh}{lk:Nat->Option aA}(h:bu c G sl n lk a w)(hO:Cr w v x fp)(cQ:fp.Nodup)(hF:Fr c G lk w fp)
  (aZ:∀ p∈bZ id v.cells,lk p.1=none) (qT:((bZ id v.cells).map (·.1)).Nodup) (hR:∀ j,id<=j->c.R j=none) :
  ∃ G' lk',(∀ i,lk' i=gw (bZ id v.cells) lk i)/\bu c G' sl n lk' a w/\Ext G lk G' lk'/\TR c G' lk' w (eZ id v) x/\∀ fq,Fr c G lk w fq->(∀ b∈fq,b∉fp)->Fr c G' lk' w fq:=by
 have one:v.τ.agg=false->v.cells=[v]->eZ id v=iN id v->Ow w v.aP [x] fp->∃ G' lk',(∀ i,lk' i=gw (bZ id v.cells) lk i)/\bu c G' sl n lk' a w/\Ext G lk G' lk'/\TR c G' lk' w (eZ id v) x/\∀ fq,Fr c G lk w fq->(∀ b∈fq,b∉fp)->Fr c G' lk' w fq:=by
  intro hv hc hov hO;rw[hc] at aZ qT;obtain⟨G',lk',k1,k2,k3,k4,k5⟩:=h.Ct (us:=[v]) (cs:=[x]) (fp:=fp) (by simpa using hv) ⟨x,[],fp,[],rfl,by simp,hO,rfl,rfl⟩ cQ hF aZ qT hR;rw[hc,hov];exact⟨G',lk',k1,k2,k3,C1.b2L k4.1 hv,k5⟩
 obtain⟨τ,y⟩:=v;cases τ with
 | st s =>
  obtain⟨cs,rfl,hO⟩:=hO;rw[aQ.ct] at hO;obtain⟨G',lk',k1,k2,k3,k4,k5⟩:=h.Ct (us:=s.cells y) (cs:=cs) (fp:=fp) (L1 s y) hO cQ hF aZ qT hR;exact⟨G',lk',k1,k2,k3,⟨cs,rfl,k4⟩,k5⟩
 | slice t=>exact one rfl rfl rfl hO
 | mv t=>exact one rfl rfl rfl hO
 | ptr=>exact one rfl rfl rfl hO
 | int k=>exact one rfl rfl rfl hO
 | bool=>exact one rfl rfl rfl hO
 | str=>exact one rfl rfl rfl hO
theorem a5x{r r':List (Nat×aA)}(hd:∀ p∈r',ah r p.1=none)(lk:Nat->Option aA)(i:Nat):gw r' (gw r lk) i=gw (r++r') lk i:=by
 rw[SZ];unfold gw;cases hx:ah r' i with
 | none=>rfl
 | some o =>
  have:=hd _ (fB hx);simp only[] at this ⊢;rw[this]
theorem bu.Oh:∀ {vs:List TV} {xs:List Value} {fp:List Nat} {id:Nat} {G:Gh} {lk:Nat->Option aA},bu c G sl n lk a w->Od w vs xs fp->fp.Nodup->Fr c G lk w fp ->
  (∀ p∈bw id vs,lk p.1=none)->((bw id vs).map (·.1)).Nodup->(∀ j,id<=j->c.R j=none) ->
  ∃ G' lk',(∀ i,lk' i=gw (bw id vs) lk i)/\bu c G' sl n lk' a w/\Ext G lk G' lk'/\aT (TR c G' lk' w) (Qn id vs) xs/\∀ fq,Fr c G lk w fq->(∀ b∈fq,b∉fp)->Fr c G' lk' w fq
 | [],[],fp,id,G,lk,h,_,_,_,_,_,_=>⟨G,lk,λ _=>rfl,h,Ext.refl _ _,ae,λ fq hq _=>hq⟩
 | v::vs,x::xs,fp,id,G,lk,h,hO,cQ,hF,aZ,qT,hR=>by
  obtain⟨f1,f2,rfl,h1,h2⟩:=hO;rw[b4a] at cQ;obtain⟨nd1,nd2,nd3⟩:=cQ;simp only[bw,b5n] at qT;rw[b4a] at qT;obtain⟨d1,d2,d3⟩:=qT;obtain⟨G1,DO,l1,i1,e1,c1,fr1⟩:=h.Uu (id:=id) h1 nd1 (λ b hb=>hF b (by simp[hb])) (λ p hp=>aZ p (by simp[bw,hp])) d1 hR;have eQ:∀ p∈bw (id+20) vs,ah (bZ id v.cells) p.1=none:=λ p hp=>WI λ q hq e=>d3 q.1 (b3E.2 ⟨q,hq,rfl⟩) p.1 (b3E.2 ⟨p,hp,rfl⟩) e;obtain⟨G2,lk2,k1,k2,k3,k4,k5⟩:=bu.Oh (vs:=vs) (xs:=xs) (fp:=f2) (id:=id+20) i1 h2 nd2
   (fr1 f2 (λ b hb=>hF b (by simp[hb])) (λ b hb cz=>nd3 b cz b hb rfl)) (λ p hp=>by rw[l1 p.1];unfold gw;rw[eQ p hp];exact aZ p (by simp[bw,hp])) d2 (λ j hj=>hR j (by omega))
  refine⟨G2,lk2,λ i=>?_,k2,e1.trans k3,⟨c1.ext k3,k4⟩,λ fq hq AG=>k5 fq (fr1 fq hq λ b hb cz=>AG b hb (by simp[cz])) λ b hb cz=>AG b hb (by simp[cz])⟩;rw[k1 i,show DO=gw (bZ id v.cells) lk from funext l1];exact a5x eQ lk i
 | [],_::_,_,_,_,_,_,hO,_,_,_,_,_=>hO.elim
 | _::_,[],_,_,_,_,_,hO,_,_,_,_,_=>hO.elim
theorem pq(r r':List (Nat×aA))(i:Nat):ah (r++r') i=gw r (ah r') i:=by
 unfold gw;induction r with
 | nil=>rfl
 | cons p r ih =>
  obtain⟨k,o⟩:=p;rw[b4M,dC,dC];by_cases hj:i=k
  .simp[hj]
  .simpa [hj] using ih
theorem NL{id:Nat}{res:List TV}{x:Value}{fp:List Nat}(h:tY w res x fp):∃ xs,Od w res xs fp/\∀ (G:Gh) (lk:Nat->Option aA),aT (TR c G lk w) (Qn id res) xs->VR c G lk w (kr id res) x:=by
 match res,h with
 | [v],h=>exact⟨[x],⟨fp,[],by simp,h,rfl⟩,λ G lk ha=>ha.1.fT⟩
 | [],h =>
  obtain⟨l,h1,h2⟩:=h;exact⟨l,h2,λ G lk ha=>⟨l,h1,ha⟩⟩
 | v::u::r,h =>
  obtain⟨l,h1,h2⟩:=h;exact⟨l,h2,λ G lk ha=>⟨l,h1,ha⟩⟩
end
section
variable {c:Ctx} {G:Gh} {s:ai} {a:Act} {w w':World}
theorem cW:∀ {l:List Nat},nodupB l=true->l.Nodup
 | [],_=>b4I
 | a::r,h=>by
  simp only[nodupB] at h;split at h
  .cases h
  .rename_i hc;exact List.nodup_cons.2 ⟨by simpa using hc,cW h⟩
theorem Xa(hE:bE c.P c.E)(h:Inv c G s a w){o:Oper}{f:FuncId}{Ts:List TypeId}{vs:List AV}{xs:List Value}{Z9:List Arg}{pre:Vc}{res:List TV}{d b:Nat}{Q:Exit->Act->World->Prop}
  (has:mq c.E s.ah Ts vs=some Z9) (kc:aT (VR c G s.ah w) vs xs) (hc:c.E.Qh f Z9=some (pre,res)) (yn:pre.ok) (hd:o.dst=some d)
  (uN:∀ p∈bw b res,s.ah p.1=none) (qT:((bw b res).map (·.1)).Nodup) (hR:100<=b)
  (cG:jG c.P f->(execOp a.eval o).run c.P w = .ok (.enter f xs.toArray) w) :
  o.wp c.P a w (λ a' w'=>∃ G',Inv c G' { aC:=s.aC.set d (kr b res),aK:=bw b res++s.aK } a' w') Q:=by
 obtain⟨nF,ig⟩:=hE.Qh f Z9 pre res hc yn;unfold Oper.wp;rw[cG nF];simp only[Oper.upon];refine (ig w (SX G s.ah) xs [] ?_ (.W8 (iu hE h (λ _ _ h=>h) (λ _ h => .inl h) (λ τ v x y h1 h2=>Ag h.aR h.aK (λ _ _ h=>h) h1 h2) has kc)) (.inl rfl) List.nodup_nil (by simp)).mono ?_
 .exact h.a2p
 .rintro e w' ⟨x,fp,rfl,hk,hO,cQ,lY⟩;have hk:bC (λ _=>False) w w':=⟨hk.os,hk.tape,hk.output,hk.size,λ b hb _=>hk.block b hb (by simp)⟩;have lY:∀ b∈fp,w.heap.size<=b/\b<w'.heap.size:=λ b hb=>(lY b hb).resolve_left (by simp);have hI:=bu.grow h hk (S':=G.S) (λ _ _=>b5z) (λ b hb=>b3P (h.dE b hb) hk.size);obtain⟨ys,pB,TD⟩:=NL (c:=c) (id:=b) hO;have hF:Fr c ⟨G.S,G.η,G.φ⟩ s.ah w' fp:=λ b hb=>by
   obtain⟨h1,h2⟩:=lY b hb;have:=h.aS.size;refine⟨.inl (by omega),λ hs=>?_,h2,λ i o' hi p7=>?_,λ j τ zs hj nA=>?_⟩
   .have:=h.dE b hs;omega
   .have:=(h.place i o' b hi p7).2.2;omega
   .have:=(h.aR.pl j τ zs b hj nA).2.2.1;omega
  obtain⟨G',lk',k1,k2,k3,k4,_⟩:=hI.Oh (id:=b) pB cQ hF uN qT (λ j hj=>by
   cases hr:c.R j with
   | none=>rfl
   | some v=>have:=h.iO j v hr;omega)
  refine⟨G',?_⟩;have cr:ai.ah { aC:=s.aC.set d (kr b res),aK:=bw b res++s.aK }=lk':=by
   funext i;rw[k1 i];exact pq _ _ i
  unfold Inv;rw[cr,hd,show ai.sl { aC:=s.aC.set d (kr b res),aK:=bw b res++s.aK }=jP s.aC.length s.sl (some d) (kr b res) from qG s.aC d _ _,
   show ({ aC:=s.aC.set d (kr b res),aK:=bw b res++s.aK }:ai).aC.length=s.aC.length from by simp]
  exact bu.put k2 (TD G' lk' k4)
end
theorem eV{α:Type}:∀ {l:List (Nat×α)} {id:Nat} {o:α},ah l id=some o->(id,o)∈l
 | (k,p)::r,id,o,h=>by
  simp only[ah] at h;split at h
  .rename_i hk;have hk:=b3x hk;simp only[b3t] at h;subst hk h;simp
  .exact b5c _ (eV h)
theorem wW{α:Type}:∀ {l:List (Nat×α)} {id:Nat} {o:α},(l.map (·.1)).Nodup->(id,o)∈l->ah l id=some o
 | (k,p)::r,id,o,hd,h=>by
  simp only[b4o,b4n] at hd;simp only[ah];rcases b3S.1 h with e|h
  .simp only[b3w] at e;obtain⟨rfl,rfl⟩:=e;simp
  .split
   .rename_i hk;have hk:=b3x hk;subst hk;exact absurd (b3E.2 ⟨_,h,rfl⟩) hd.1
   .exact wW hd.2 h
section
variable {c:Ctx} {G:Gh} {sl:Nat->AV} {n:Nat} {lk:Nat->Option aA} {a:Act} {w w':World}
abbrev TE:=Value×List Nat×aA
def JJ(A:List (Nat×TE))(G:Gh)(i:Nat):Value:=match ah A i with
 | some e=>e.1
 | none=>G.η i
def Bz(A:List (Nat×TE))(G:Gh)(i:Nat):List Nat:=match ah A i with
 | some e=>e.2.1
 | none=>G.φ i
def Ut(A:List (Nat×TE))(lk:Nat->Option aA)(i:Nat):Option aA:=match ah A i with
 | some e=>some e.2.2
 | none=>lk i
structure a0N(G:Gh)(lk:Nat->Option aA)(w':World)(id:Nat)(e:TE):Prop where
 ex:∃ τ xs cR v l l',lk id=some (.aw τ xs)/\e.2.2 = .aw τ cR/\G.η id = .tuple (v::l).toArray/\e.1 = .tuple (v::l').toArray/\iq w' e.1 τ cR e.2.1/\e.2.1.Nodup
theorem Lk.ofList{A:List (Nat×TE)}(hA:∀ p∈A,a0N G lk w' p.1 p.2)(a3f:∀ p∈A,∀ b∈p.2.2.1,(∃ q∈A,b∈G.φ q.1)\/wJ c G lk w' b)(hap:∀ p∈A,∀ q∈A,∀ b∈p.2.2.1,b∈q.2.2.1->p.1=q.1)(cQ:(A.map (·.1)).Nodup)
  (b0C:∀ b,b<w.heap.size->(∀ p∈A,b∉G.φ p.1)->w'.heap[b]?=w.heap[b]?) (hos:w'.os=w.os) (a3i:w'.tape=w.tape) (Y4:w'.output=w.output) (Rn:w.heap.size<=w'.heap.size) :
  Lk c G lk (Ut A lk) w w' (JJ A G) (Bz A G) (λ i=>∃ e,ah A i=some e) where
 same id hi:=by
  have:ah A id=none:=by
   cases hx:ah A id with
   | none=>rfl
   | some e=>exact absurd ⟨e,hx⟩ hi
  simp[Ut,JJ,Bz,this]
 aw id:=by
  rintro⟨e,he⟩;obtain⟨τ,xs,cR,v,l,l',h1,h2,h3,h4,h5,h6⟩:=(hA _ (eV he)).ex;refine⟨τ,xs,cR,v,l,l',h1,?_,h3,?_,?_,?_⟩
  .simp only[Ut,he];rw[<-h2]
  .simp only[JJ,he];exact h4
  .simp only[JJ,Bz,he];exact h5
  .simp only[Bz,he];exact h6
 a9y id b:=by
  rintro⟨e,he⟩ hb;simp only[Bz,he] at hb;rcases a3f _ (eV he) b hb with ⟨q,hq,hbq⟩|hfr
  .exact .inl ⟨q.1,⟨q.2,wW cQ hq⟩,hbq⟩
  .exact .inr hfr
 apart id dx b:=by
  rintro⟨e,he⟩ ⟨e',Dh⟩ hb cz;simp only[Bz,he] at hb;simp only[Bz,Dh] at cz;exact hap _ (eV he) _ (eV Dh) b hb cz
 heap b hb hn:=b0C b hb λ p hp=>hn p.1 ⟨p.2,wW cQ hp⟩
 os:=hos
 tape:=a3i
 output:=Y4
 size:=Rn
def wK(G:Gh)(lk:Nat->Option aA)(ids:List Nat)(b:Nat):Prop :=
 ∃ id∈ids,(∃ τ xs,lk id=some (.aw τ xs)/\b∈G.φ id)\/∃ e τ xs,lk id=some (.row e τ xs)/\eb (G.η id)=some b
theorem wK.mono{ids IB:List Nat}{b:Nat}(h:wK G lk ids b)(hs:∀ i∈ids,i∈IB):wK G lk IB b:=by
 obtain⟨id,hi,h⟩:=h;exact⟨id,hs id hi,h⟩
theorem bu.iV(h:bu c G sl n lk a w){i j:List Nat}{b:Nat}(hi:wK G lk i b)(hj:wK G lk j b)(hd:∀ x∈i,∀ y∈j,x≠y):False:=by
 obtain⟨x,hx,h1⟩:=hi;obtain⟨y,hy,h2⟩:=hj;rcases h1 with ⟨τ,xs,k1,k2⟩|⟨e,τ,xs,k1,k2⟩<;>rcases h2 with ⟨bf,cR,m1,m2⟩|⟨e',bf,cR,m1,m2⟩
 .exact hd x hx y hy (h.aR.ap x y τ bf xs cR b k1 m1 k2 m2)
 .exact (h.aR.pl x τ xs b k1 k2).2.2.2 y _ m1 m2
 .exact (h.aR.pl y bf cR b m1 m2).2.2.2 x _ k1 k2
 .exact hd x hx y hy (h.apart x y _ _ b k1 m1 k2 m2)
theorem tT{τ:Ty}(h:τ.wI=true)(y:τ.den):(τ.aP y).light=true:=by
 cases τ<;>first|rfl|cases h
theorem WG:∀ {l:List D},(∀ d∈l,d.light=true)->D.JZ l=true
 | [],_=>rfl
 | d::ds,h=>by
  simp only[D.JZ,b3A];exact⟨h d (by simp),WG λ e he=>h e (b5c _ he)⟩
theorem a0A{τ:Ty}(h:τ.plain=true)(y:τ.den):(τ.aP y).light=true:=by
 cases τ with
 | st s =>
  show (s.aP y).light=true;rw[aQ.ct];refine WG λ d hd=>?_;obtain⟨u,hu,rfl⟩:=b3E.1 hd;have ht:u.τ∈s.s7:=by rw[<-aQ.oo s y];exact b3E.2 ⟨u,hu,rfl⟩
  exact tT (b4r.1 h _ ht) u.x
 | slice t=>cases h
 | mv t=>cases h
 | ptr=>rfl
 | int k=>rfl
 | bool=>rfl
 | str=>rfl
theorem By(h:bu c G sl n lk a w){τ:Ty}{v:AV}{x:Value}{y:τ.den}{ids:List Nat}(ht:dY lk τ v=some (y,ids))(hv:C1 c G lk w v x):∃ fp,Ow w (τ.aP y) [x] fp/\fp.Nodup/\∀ b∈fp,wK G lk ids b:=by
 cases v with
 | aF u =>
  simp only[dY] at ht;split at ht
  .rename_i y' hs hy;simp only[b3t,b3w] at ht;obtain⟨rfl,rfl⟩:=ht;have e:=TV.aW hy;subst e;exact⟨[],Ow.ep _ (tT hs _) hv.2,b4I,by simp⟩
  .cases ht
 | nil =>
  cases τ with
  | slice t =>
   simp only[dY,b3t,b3w] at ht;obtain⟨rfl,rfl⟩:=ht;exact⟨[],⟨none,0,by rw[show x=_ from hv];rfl,by simp,by simp[maxLen],by simp, .inl ⟨rfl,⟨rfl,rfl⟩,rfl⟩⟩,b4I,by simp⟩
  | _=>cases ht
 | aw id =>
  simp only[dY] at ht;split at ht
  .rename_i bf xs hl;split at ht
   .rename_i y' hy;simp only[b3t,b3w] at ht;obtain⟨rfl,rfl⟩:=ht;have e:=TV.aW hy;cases e;obtain⟨_,l,h2,_⟩:=hv;exact⟨G.φ id,Ow.a7B (h.aR.tr id bf xs hl) h2,h.aR.nd id bf xs hl,λ b hb=>⟨id,by simp, .inl ⟨bf,xs,hl,hb⟩⟩⟩
   .cases ht
  .cases ht
 | row id =>
  simp only[dY] at ht;split at ht
  .rename_i e bf xs hl;split at ht
   .rename_i y' hp hy;simp only[b3t,b3w] at ht;obtain⟨rfl,rfl⟩:=ht;have e1:=TV.aW hy;cases e1;obtain⟨hx,_,_⟩:=hv;obtain⟨l,h1,h2,h3⟩:=h.aK id _ hl;have PC:∀ d∈xs.map bf.aP,d.light=true:=λ d hd=>by
     obtain⟨z,_,rfl⟩:=b3E.1 hd;exact a0A hp z
    rcases h1.2 with ⟨hv',hn⟩|⟨g,cap,cur,hv',_,hh,XZ,hcm,ka,htk⟩
    .have kc:xs=[]:=b4C hn;subst kc;exact⟨[],⟨none,0,by rw[hx,hv'];rfl,by simp,by simp[maxLen],by simp, .inl ⟨rfl,⟨rfl,rfl⟩,rfl⟩⟩,b4I,by simp⟩
    .refine⟨[g],⟨some ⟨g,0,none⟩,cap,by rw[hx,hv'];simp,by simpa using XZ,hcm,by simpa using h3, .inr ⟨g,[],cur.toList,e,rfl,rfl,by simpa using hh,?_⟩⟩,by simp,λ b hb=>?_⟩
     .have hr:=bQ.ep (w:=w) (S:=G.S) (xs.map bf.aP) (l:=l) (m:=cur.toList.drop (xs.length * bf.size)) PC h2;rw[<-htk,b4K] at hr;exact⟨by rw[b4A];exact ka,hr⟩
     .simp only[b4e] at hb;subst hb;exact⟨id,by simp, .inr ⟨e,bf,xs,hl,by rw[hv'];rfl⟩⟩
   .cases ht
  .cases ht
 | _=>cases ht
theorem ed{l1 l2:List Nat}(h1:l1.Nodup)(h2:l2.Nodup)(h3:∀ x∈l1,x∉l2):(l1++l2).Nodup:=by
 rw[b4a];exact⟨h1,h2,λ x hx y hy e=>h3 x hx (e ▸ hy)⟩
theorem QD(h:bu c G sl n lk a w):∀ {cs:List AV} {ts:List Ty} {us:List TV} {ids:List Nat} {l:List Value},sR lk cs ts=some (us,ids)->aT (C1 c G lk w) cs l->ids.Nodup ->
  ∃ fp,cT w (us.map TV.aP) l fp/\fp.Nodup/\(∀ b∈fp,wK G lk ids b)/\us.map TV.τ=ts
 | [],[],us,ids,l,ht,hl,_=>by
  simp only[sR,b3t,b3w] at ht;obtain⟨rfl,rfl⟩:=ht;match l,hl with
  | [],_=>exact⟨[],⟨rfl,rfl⟩,b4I,by simp,rfl⟩
 | cc::cs,t::ts,us,ids,l,ht,hl,cQ=>by
  simp only[sR] at ht;split at ht
  .rename_i x i hx;split at ht
   .rename_i r j hr;simp only[b3t,b3w] at ht;obtain⟨rfl,rfl⟩:=ht;match l,hl with
    | v::l,hl =>
     rw[b4a] at cQ;obtain⟨n1,n2,n3⟩:=cQ;obtain⟨f1,a1,a2,a3⟩:=By h hx hl.1;obtain⟨f2,b1,b2,b3,b4⟩:=QD h hr hl.2 n2;refine⟨f1++f2,⟨v,l,f1,f2,rfl,rfl,a1,b1⟩,ed a2 b2 λ b hb cz=>h.iV (a3 b hb) (b3 b cz) (λ x hx y hy=>n3 x hx y hy),λ b hb=>?_,by simp[b4]⟩;rcases b3y.1 hb with hb|hb
     .exact (a3 b hb).mono λ k hk=>by simp[hk]
     .exact (b3 b hb).mono λ k hk=>by simp[hk]
   .cases ht
  .cases ht
 | [],_::_,_,_,_,ht,_,_=>by cases ht
 | _::_,[],_,_,_,ht,_,_=>by cases ht
theorem mj(h:bu c G sl n lk a w){τ:Ty}{v:AV}{x:Value}{y:τ.den}{ids:List Nat}(ht:qH lk τ v=some (y,ids))(hv:VR c G lk w v x)(cQ:ids.Nodup):∃ fp,Cr w ⟨τ,y⟩ x fp/\fp.Nodup/\∀ b∈fp,wK G lk ids b:=by
 have one:(∀ cs,v ≠ .agg cs)->dY lk τ v=some (y,ids)->∃ fp,Cr w ⟨τ,y⟩ x fp/\fp.Nodup/\∀ b∈fp,wK G lk ids b:=by
  intro hna ht;have cw:∀ s,τ ≠ .st s:=λ s e=>by
   subst e;cases v with
   | aF u=>simp[dY,Ty.wI] at ht
   | nil=>simp[dY] at ht
   | aw id =>
    simp only[dY] at ht;split at ht
    .split at ht
     .rename_i hy;have e:=TV.aW hy;cases e
     .cases ht
    .cases ht
   | row id =>
    simp only[dY] at ht;split at ht
    .split at ht
     .rename_i hy;have e:=TV.aW hy;cases e
     .cases ht
    .cases ht
   | _=>cases ht
  have hc:C1 c G lk w v x:=by
   refine hv.Zy ?_;cases v with
   | aF u =>
    simp only[dY] at ht;split at ht
    .rename_i hy;have e:=TV.aW hy;subst e;cases τ<;>first|rfl|exact absurd rfl (cw _)
    .cases ht
   | nil=>rfl
   | aw id=>rfl
   | row id=>rfl
   | _=>cases ht
  obtain⟨fp,h1,h2,h3⟩:=By h ht hc;refine⟨fp,?_,h2,h3⟩;cases τ with
  | st s=>exact absurd rfl (cw s)
  | _=>exact h1
 cases v with
 | agg cs =>
  cases τ with
  | st s =>
   simp only[qH] at ht;split at ht
   .rename_i us i ka;split at ht
    .rename_i y' hy;simp only[b3t,b3w] at ht;obtain⟨rfl,rfl⟩:=ht;obtain⟨l,rfl,hl⟩:=hv;obtain⟨fp,h1,h2,h3,_⟩:=QD h ka hl cQ;refine⟨fp,⟨l,rfl,?_⟩,h2,h3⟩;rw[aQ.ct,aQ.nV hy];exact h1
    .cases ht
   .cases ht
  | _=>cases ht
 | _=>exact one (by intro cs;simp) ht
theorem cT.split:∀ (ds:List D) {l:List Value} {fp:List Nat} (i:Nat) (d:D),cT w ds l fp->ds[i]?=some d ->
  ∃ v f0 f1 f2,fp=f0++f1++f2/\l[i]?=some v/\Ow w d [v] f1/\∀ (w':World) (d':D) (v':Value) (iB:List Nat),(∀ b∈f0++f2,w'.heap[b]?=w.heap[b]?)->Ow w' d' [v'] iB->cT w' (ds.set i d') (l.set i v') (f0++iB++f2)
 | [],_,_,_,_,_,hi=>by simp at hi
 | e::ds,_,_,0,d,h,hi=>by
  obtain⟨v,r,f1,f2,rfl,rfl,h3,h4⟩:=h;simp at hi;subst hi;exact⟨v,[],f1,f2,by simp,rfl,h3,λ w' d' v' iB hw hd=>⟨v',r,iB,f2,rfl,by simp,hd,cT.aS ds h4 λ b hb=>hw b (by simp[hb])⟩⟩
 | e::ds,_,_,i+1,d,h,hi=>by
  obtain⟨v,r,g1,g2,rfl,rfl,h3,h4⟩:=h;obtain⟨u,f0,f1,f2,rfl,k1,k2,k3⟩:=cT.split ds i d h4 (by simpa using hi);refine⟨u,g1++f0,f1,f2,by simp,by simpa using k1,k2,λ w' d' v' iB hw hd=>?_⟩;exact⟨v,r.set i v',g1,f0++iB++f2,rfl,by simp,Ow.aS e h3 λ b hb=>hw b (by simp[hb]),k3 w' d' v' iB (λ b hb=>hw b (by simp at hb ⊢;rcases hb with hb|hb<;>simp[hb])) hd⟩
theorem SV(v:AV):v.de=v\/v.de = .any:=by unfold AV.de;split<;>simp
theorem LD(v:AV):v.de.QC=false:=by
 unfold AV.de;split
 .rfl
 .assumption
theorem Tb:∀ cs:List AV,AV.oU (cs.map AV.de)=false
 | []=>rfl
 | v::r=>by simp only[b4o,AV.oU,LD];exact Tb r
theorem C1.de{v:AV}{x:Value}(h:C1 c G lk w v x):C1 c G lk w v.de x:=by
 rcases SV v with e|e
 .rw[e];exact h
 .rw[e];trivial
theorem LR(o:Option aA):eJ o (o.map aA.de):=by
 refine⟨λ h=>?_,λ e τ xs h=>⟨e,xs,by rw[h];rfl,b4h _⟩,λ h=>?_,λ h=>?_⟩
 .match o,h with
  | some (.box cs),_=>rfl
 .match o,h with
  | some (.aw τ xs),_=>rfl
 .match o,h with
  | some (.map m),_=>rfl
theorem Bg{o:Option aA}{τ:Ty}{xs:List τ.den}(h:o.map aA.de=some (.aw τ xs)):o=some (.aw τ xs):=by
 match o,h with
 | some (.aw bf cR),h=>exact h
 | some (.box _),h=>cases h
 | some (.row ..),h=>cases h
theorem bu.bW(h:bu c G sl n lk a w):bu c G (λ i=>(sl i).de) n (λ i=>(lk i).map aA.de) a w:=by
 have h1:bu c G (λ i=>(sl i).de) n lk a w:=h.forget λ i=>SV (sl i);exact {
  defers:=h1.defers,size:=h1.size,aS:=h1.aS,jE:=h1.jE,ez:=h1.ez,sX:=h1.sX,dE:=h1.dE
  aC:=λ i=>(h1.aC i).mono (λ j _=>⟨LR _,rfl⟩) (λ _ h=>h) (λ _ _=>rfl)
  aK:=λ i o ho=>by
   rw[b4t] at ho;obtain⟨o',cO,rfl⟩:=ho;have hk:OR c G lk w i o'.de:=by
    have:=h1.aK i o' cO;cases o' with
    | box cs =>
     obtain⟨b,l,t,k1,k2,k3⟩:=this;exact⟨b,l,t,k1,k2,aT.en _ (k3.imp λ u y _ hy=>hy.de)⟩
    | row e τ xs=>exact this
    | aw τ xs=>exact this
    | map m=>exact this
   exact hk.mono rfl (λ _ _=>rfl) (λ j _=>⟨LR _,rfl⟩) (λ _ h=>h) (λ _ _=>rfl)
  place:=λ i o b ho hb=>by
   rw[b4t] at ho;obtain⟨o',cO,rfl⟩:=ho;exact h1.place i o' b cO hb
  apart:=λ i j o o' b ho cO hb cz=>by
   rw[b4t] at ho cO;obtain⟨p,hp,rfl⟩:=ho;obtain⟨q,hq,rfl⟩:=cO;exact h1.apart i j p q b hp hq hb cz
  aR:=h1.aR.sub (λ i τ xs k=>Bg k) (λ i o k=>by
   rw[b4t] at k;obtain⟨p,hp,_⟩:=k;exact⟨p,hp⟩)
  root:=λ i v hr ht=>h1.root i v hr (by
   match hl:lk i,ht with
   | some (.aw ..),_=>rfl
   | some (.box _),ht=>simp[hl,aA.de,cx] at ht
   | some (.row ..),ht=>simp[hl,aA.de,cx] at ht
   | none,ht=>simp[hl,cx] at ht)
  iO:=h1.iO
  du:=λ i v hr ht=>h1.du i v hr (by
   match hl:lk i,ht with
   | some (.box _),_=>rfl
   | some (.aw ..),ht=>simp[hl,aA.de,gf] at ht
   | some (.row ..),ht=>simp[hl,aA.de,gf] at ht
   | none,ht=>simp[hl,gf] at ht)
  fc:=h1.fc }
end
section
variable {c:Ctx} {G:Gh} {s:ai} {a:Act} {w w':World}
theorem Xs(s:ai):s.bW.sl=λ i=>(s.sl i).de:=by
 funext i;simp only[ai.sl,ai.bW,b3N,b5k];cases s.aC[i]?<;>rfl
theorem kj(s:ai):s.bW.ah=λ i=>(s.ah i).map aA.de:=by
 funext i;exact J0 _ _ _
theorem Inv.bW(h:Inv c G s a w):Inv c G s.bW a w/\(∀ i,(s.bW.sl i).QC=false)/\∀ id cs,s.bW.ah id=some (.box cs)->AV.oU cs=false:=by
 refine⟨?_,λ i=>by rw[Xs];exact LD _,λ id cs aZ=>?_⟩
 .unfold Inv;rw[Xs,kj,show s.bW.aC.length=s.aC.length from by simp[ai.bW]];exact bu.bW h
 .rw[kj] at aZ;simp only[b4t] at aZ;obtain⟨o,_,ho⟩:=aZ;cases o with
  | box dB=>cases ho;exact Tb dB
  | row e τ xs=>cases ho
  | aw τ xs=>cases ho
  | map m=>cases ho
theorem Inv.UP(h:Inv c G s a w){A:List (Nat×TE)}(hA:∀ p∈A,a0N G s.ah w' p.1 p.2)(a3f:∀ p∈A,∀ b∈p.2.2.1,(∃ q∈A,b∈G.φ q.1)\/wJ c G s.ah w' b)(hap:∀ p∈A,∀ q∈A,∀ b∈p.2.2.1,b∈q.2.2.1->p.1=q.1)(cQ:(A.map (·.1)).Nodup)
  {F:Nat->Prop} (hk:bC F w w') (hF:∀ b,F b->∃ p∈A,b∈G.φ p.1) {t:ai} (hts:t.aC=s.bW.aC) (Hn:∀ i,t.ah i=Ut A s.bW.ah i) {d:Option Nat} {v:AV} {x:Value} (hv:∀ G' lk,VR c G' lk w' v x) :
  ∃ G',Inv c G' (t.put d v) (a.put d x) w':=by
 obtain⟨h1,h2,h3⟩:=h.bW;have hA':∀ p∈A,a0N G s.bW.ah w' p.1 p.2:=λ p hp=>by
  obtain⟨τ,xs,cR,v,l,l',k1,k2⟩:=(hA p hp).ex;exact⟨τ,xs,cR,v,l,l',by rw[kj];simp[k1,aA.de],k2⟩
 have a8D:∀ p∈A,∀ b∈p.2.2.1,(∃ q∈A,b∈G.φ q.1)\/wJ c G s.bW.ah w' b:=λ p hp b hb=>(a3f p hp b hb).imp id λ ⟨q1,q2,q3,q4,q5⟩ =>
  ⟨q1,q2,q3,λ i o hi=>by
   rw[kj] at hi;simp only[b4t] at hi;obtain⟨o',cO,_⟩:=hi;exact q4 i o' cO,λ j τ xs hj=>q5 j τ xs (by rw[kj] at hj;exact Bg hj)⟩
 have T:=Lk.ofList (c:=c) (w:=w) hA' a8D hap cQ (λ b hb hn=>hk.block b hb λ hf=>by
  obtain⟨p,hp,hbp⟩:=hF b hf;exact hn p hp hbp) hk.os hk.tape hk.output hk.size
 have hI:=bu.fe h1 T h2 h3;refine⟨_,Inv.put (G:=⟨G.S,JJ A G,Bz A G⟩) ?_ (hv _ _)⟩;unfold Inv;rw[show t.sl=s.bW.sl from by funext i;simp only[ai.sl,hts],show t.ah=Ut A s.bW.ah from funext Hn,hts];exact hI
theorem QE(id:Nat)(e:TE)(lk:Nat->Option aA)(i:Nat):Ut [(id,e)] lk i=if i=id then some e.2.2 else lk i:=by
 unfold Ut;simp only[ah];by_cases hi:i=id
 .subst hi;simp
 .have:Nat.beq id i=false:=by
   cases hb:Nat.beq id i with
   | false=>rfl
   | true=>exact absurd (b3x hb).symm hi
  simp[this,hi]
theorem fH(s:ai)(id:Nat)(τ:Ty)(xs:List τ.den)(i:Nat):(s.dF id τ xs).ah i=if i=id then some (.aw τ xs) else s.ah i:=by
 show ah ((id,_)::bR id s.aK) i=_;rw[dC,eH];by_cases hi:i=id
 .simp[hi]
 .simp[hi];rfl
theorem Qq{lk:Nat->Option aA}{k:Int}(h:O k):VR c G lk w (.aF ⟨.int .i64,k⟩) (.int .i64 k):=by
 refine⟨rfl,?_⟩;simp only[IntKind.min,IntKind.max,IntKind.signed,IntKind.bits,b5u];obtain⟨q1,q2⟩:=h;constructor<;>omega
theorem VM(h:Inv c G s a w){b:Nat}(h1:w.heap.size<=b)(h2:b<w'.heap.size):wJ c G s.ah w' b:=by
 have:=h.aS.size;refine⟨.inl (by omega),λ hs=>by have:=h.dE b hs;omega,h2,λ i o hi p7=>by have:=(h.place i o b hi p7).2.2;omega,λ j τ xs hj nA=>by have:=(h.aR.pl j τ xs b hj nA).2.2.1;omega⟩
theorem Uj(hE:bE c.P c.E)(h:Inv c G s a w){o:Oper}{f:FuncId}{τ:Ty}{g:(Ty.slice τ).den->Int->Vc×(Ty.slice τ).den×Int}(hm:c.E.mark f=some ⟨.slice τ,g⟩){id:Nat}{xs:List τ.den}(aZ:s.ah id=some (.aw τ xs)){k:Int}{v z:Value}{d:Nat}
  (hv:VR c G s.ah w (.aw id) v) (hz:VR c G s.ah w (.aF ⟨.int .i64,k⟩) z) (yn:(g xs k).1.ok) (hd:o.dst=some d) (cG:jG c.P f->(execOp a.eval o).run c.P w = .ok (.enter f [v,z].toArray) w) {Q:Exit->Act->World->Prop} :
  o.wp c.P a w (λ a' w'=>∃ G',Inv c G' ((s.bW.dF id τ (g xs k).2.1).put (some d) (.aF ⟨.int .i64,(g xs k).2.2⟩)) a' w') Q:=by
 obtain⟨nF,ig⟩:=hE.mark f _ hm;obtain⟨X3,hz2,hz3⟩:=hz;simp only[b3F,b3L] at X3;subst X3;obtain⟨_,l,eu,E5⟩:=hv;have hO:=Ow.a7B (h.aR.tr id τ xs aZ) eu;have a1y:O k:=by
  simp only[IntKind.min,IntKind.max,IntKind.signed,IntKind.bits,b5u] at hz2 hz3;constructor<;>omega
 unfold Oper.wp;rw[cG nF];simp only[Oper.upon];refine (ig xs k w v (G.φ id) yn a1y (h.a6M λ b hb=>(h.aR.pl id τ xs b aZ hb).2.1) hO (h.aR.nd id τ xs aZ) λ b hb=>(h.aR.pl id τ xs b aZ hb).2.2.1).mono ?_;rintro e w' ⟨rfl,eL,hk,wP,pB,SR,th⟩;obtain⟨l',hT,_⟩:=iq.a0w (τ:=τ) pB;rw[hd];show ∃ G',Inv c G' ((s.bW.dF id τ (g xs k).2.1).put (some d) (.aF ⟨.int .i64,(g xs k).2.2⟩)) (a.put (some d) (.int .i64 (g xs k).2.2)) w';refine h.UP (w':=w') (t:=s.bW.dF id τ (g xs k).2.1) (A:=[(id,(.tuple (v::l').toArray,wP, .aw τ (g xs k).2.1))]) ?_ ?_ ?_ (by simp) hk (λ b hb=>⟨_,List.mem_singleton.2 rfl,hb⟩) rfl (λ i=>?_) (λ G' lk=>Qq eL)
 .intro p hp;simp only[b4e] at hp;subst hp;exact⟨τ,xs,_,v,l,l',aZ,rfl,eu,rfl,hT,SR⟩
 .intro p hp b hb;simp only[b4e] at hp;subst hp;rcases th b hb with q|q
  .exact .inl ⟨_,b4e.2 rfl,q⟩
  .exact .inr (VM h q.1 q.2)
 .intro p hp q hq b _ _;simp only[b4e] at hp hq;rw[hp,hq]
 .rw[QE,fH]
theorem Bt{f0 f1 f2 iB:List Nat}(h:(f0++f1++f2).Nodup)(h1:iB.Nodup)(hs:∀ b∈iB,b∈f1\/(b∉f0/\b∉f2)):(f0++iB++f2).Nodup:=by
 rw[b4a,b4a] at h;obtain⟨⟨a1,a2,a3⟩,a4,a5⟩:=h;refine ed (ed a1 h1 λ x hx Dm=>(hs x Dm).elim (λ q=>a3 x hx x q rfl) λ q=>q.1 hx) a4 λ x hx Dm=>?_;rcases b3y.1 hx with hx|hx
 .exact a5 x (by simp[hx]) x Dm rfl
 .exact (hs x hx).elim (λ q=>a5 x (by simp[q]) x Dm rfl) λ q=>q.2 Dm
theorem S7{w:World}{τ Lj:Ty}{x:τ.den}{off:Nat}{u:TV}(hu:TV.part ⟨τ,x⟩ off Lj=some u)(cw:Lj.agg=false){ce:List Value}{fp:List Nat}(hO:Ow w (τ.aP x) ce fp) :
  ∃ v f0 f1 f2,fp=f0++f1++f2/\ce[off]?=some v/\Ow w u.aP [v] f1/\∀ (w':World) (u':TV) (y:τ.den) (v':Value) (iB:List Nat),kI τ x off u'=some y->(∀ b∈f0++f2,w'.heap[b]?=w.heap[b]?)->Ow w' u'.aP [v'] iB->Ow w' (τ.aP y) (ce.set off v') (f0++iB++f2):=by
 cases τ with
 | st s =>
  have nB:(s.cells x)[off]?=some u:=by
   unfold TV.part at hu;split at hu
   .rename_i hb;simp only[b3A] at hb;have:=b4l hb.2;have e:Ty.st s=Lj:=this;subst e;cases cw
   .split at hu
    .rename_i z hz;split at hu
     .simp only[b3t] at hu;subst hu;exact hz
     .cases hu
    .cases hu
  rw[show Ty.aP (.st s) x=s.aP x from rfl,aQ.ct] at hO;obtain⟨v,f0,f1,f2,h1,h2,h3,h4⟩:=cT.split _ off u.aP hO (by rw[b5k,nB];rfl);refine⟨v,f0,f1,f2,h1,h2,h3,λ w' u' y v' iB hp hw pB=>?_⟩;simp only[kI,nB] at hp;split at hp
  .have hy:=aQ.nV hp;rw[show Ty.aP (.st s) y=s.aP y from rfl,aQ.ct,hy,b6x];exact h4 w' u'.aP v' iB hw pB
  .cases hp
 | slice t =>
  have nQ:off=0/\u=⟨.slice t,x⟩:=by
   unfold TV.part at hu;split at hu
   .rename_i hb;simp only[b3A] at hb;simp only[b3t] at hu;exact⟨b3x hb.1,hu.symm⟩
   .split at hu
    .rename_i z hz;cases off with
     | zero=>simp[TV.cells] at hz;subst hz;split at hu<;>simp_all
     | succ k=>simp[TV.cells] at hz
    .cases hu
  obtain⟨rfl,rfl⟩:=nQ;have hl:=Ow.length _ hO;match ce,hl with
  | [v],_ =>
   refine⟨v,[],fp,[],by simp,rfl,hO,λ w' u' y v' iB hp _ pB=>?_⟩;simp only[kI] at hp;have e:=TV.aW hp;subst e;rw[b3Y,b4N];exact pB
 | mv t =>
  have nQ:off=0/\u=⟨.mv t,x⟩:=by
   unfold TV.part at hu;split at hu
   .rename_i hb;simp only[b3A] at hb;simp only[b3t] at hu;exact⟨b3x hb.1,hu.symm⟩
   .split at hu
    .rename_i z hz;cases off with
     | zero=>simp[TV.cells] at hz;subst hz;split at hu<;>simp_all
     | succ k=>simp[TV.cells] at hz
    .cases hu
  obtain⟨rfl,rfl⟩:=nQ;have hl:=Ow.length _ hO;rw[Ty.cM] at hl;match ce,hl with
  | [v],_ =>
   refine⟨v,[],fp,[],by simp,rfl,hO,λ w' u' y v' iB hp _ pB=>?_⟩;simp only[kI] at hp;have e:=TV.aW hp;subst e;rw[b3Y,b4N];exact pB
 | ptr =>
  have nQ:off=0/\u=⟨.ptr,x⟩:=by
   unfold TV.part at hu;split at hu
   .rename_i hb;simp only[b3A] at hb;simp only[b3t] at hu;exact⟨b3x hb.1,hu.symm⟩
   .split at hu
    .rename_i z hz;cases off with
     | zero=>simp[TV.cells] at hz;subst hz;split at hu<;>simp_all
     | succ k=>simp[TV.cells] at hz
    .cases hu
  obtain⟨rfl,rfl⟩:=nQ;have hl:=Ow.length _ hO;rw[Ty.cM] at hl;match ce,hl with
  | [v],_ =>
   refine⟨v,[],fp,[],by simp,rfl,hO,λ w' u' y v' iB hp _ pB=>?_⟩;simp only[kI] at hp;have e:=TV.aW hp;subst e;rw[b3Y,b4N];exact pB
 | int k =>
  have nQ:off=0/\u=⟨.int k,x⟩:=by
   unfold TV.part at hu;split at hu
   .rename_i hb;simp only[b3A] at hb;simp only[b3t] at hu;exact⟨b3x hb.1,hu.symm⟩
   .split at hu
    .rename_i z hz;cases off with
     | zero=>simp[TV.cells] at hz;subst hz;split at hu<;>simp_all
     | succ k=>simp[TV.cells] at hz
    .cases hu
  obtain⟨rfl,rfl⟩:=nQ;have hl:=Ow.length _ hO;match ce,hl with
  | [v],_ =>
   refine⟨v,[],fp,[],by simp,rfl,hO,λ w' u' y v' iB hp _ pB=>?_⟩;simp only[kI] at hp;have e:=TV.aW hp;subst e;rw[b3Y,b4N];exact pB
 | bool =>
  have nQ:off=0/\u=⟨.bool,x⟩:=by
   unfold TV.part at hu;split at hu
   .rename_i hb;simp only[b3A] at hb;simp only[b3t] at hu;exact⟨b3x hb.1,hu.symm⟩
   .split at hu
    .rename_i z hz;cases off with
     | zero=>simp[TV.cells] at hz;subst hz;split at hu<;>simp_all
     | succ k=>simp[TV.cells] at hz
    .cases hu
  obtain⟨rfl,rfl⟩:=nQ;have hl:=Ow.length _ hO;match ce,hl with
  | [v],_ =>
   refine⟨v,[],fp,[],by simp,rfl,hO,λ w' u' y v' iB hp _ pB=>?_⟩;simp only[kI] at hp;have e:=TV.aW hp;subst e;rw[b3Y,b4N];exact pB
 | str =>
  have nQ:off=0/\u=⟨.str,x⟩:=by
   unfold TV.part at hu;split at hu
   .rename_i hb;simp only[b3A] at hb;simp only[b3t] at hu;exact⟨b3x hb.1,hu.symm⟩
   .split at hu
    .rename_i z hz;cases off with
     | zero=>simp[TV.cells] at hz;subst hz;split at hu<;>simp_all
     | succ k=>simp[TV.cells] at hz
    .cases hu
  obtain⟨rfl,rfl⟩:=nQ;have hl:=Ow.length _ hO;match ce,hl with
  | [v],_ =>
   refine⟨v,[],fp,[],by simp,rfl,hO,λ w' u' y v' iB hp _ pB=>?_⟩;simp only[kI] at hp;have e:=TV.aW hp;subst e;rw[b3Y,b4N];exact pB
theorem a2l(l:List Value)(o n k:Nat)(v:Value)(hk:k<n)(hl:o+n<=l.length):l.take o++((l.drop o).take n).set k v++l.drop (o+n)=l.set (o+k) v:=by
 conv=>rhs;rw[<-b4K o l]
 rw[List.set_append_right _ _ (by simp;omega),b4x];congr 1;have e:o+k - (List.take o l).length=k:=by rw[b3R];omega
 rw[e];conv=>rhs;rw[<-b4K n (l.drop o)]
 rw[List.set_append_left _ _ (by rw[b3R,b4L];omega),b5j]
theorem XF{w:World}{η:Value}{τ Lj:Ty}{xs:List τ.den}{fp:List Nat}(hT:iq w η τ xs fp)(cQ:fp.Nodup){a0:Option Addr}{n cap:Nat}{l:List Value}(eu:η = .tuple (.slice a0 n cap::l).toArray){i off:Nat}(hi:i<n){u:TV}
  (hu:TV.part ⟨τ,xs.getD i τ.zero⟩ off Lj=some u) (cw:Lj.agg=false) (nQ:off<τ.size):n=xs.length /\
  ∃ v f1,l[i * τ.size+off]?=some v/\Ow w u.aP [v] f1/\f1.Nodup/\(∀ b∈f1,b∈fp)/\∀ (w':World) (u':TV) (y:τ.den) (v':Value) (iB:List Nat),kI τ (xs.getD i τ.zero) off u'=some y->(∀ b∈fp,b∉f1->(a0=some ⟨b,0,none⟩->∃ t,w'.heap[b]?=some (.cells (l.set (i * τ.size+off) v').toArray t (0,0)))/\(a0≠some ⟨b,0,none⟩->w'.heap[b]?=w.heap[b]?))->Ow w' u'.aP [v'] iB->iB.Nodup->(∀ b∈iB,b∈f1\/b∉fp) ->
   ∃ wP,iq w' (.tuple (.slice a0 n cap::l.set (i * τ.size+off) v').toArray) τ (xs.set i y) wP/\wP.Nodup/\∀ b∈wP,b∈fp\/b∈iB:=by
 obtain⟨v0,l0,a1,Vm,h1,h2,h3,h4,h5,h6⟩:=hT;rw[eu] at h1;simp only[b5a] at h1;have h1:(Value.slice a0 n cap::l)=v0::l0:=congrArg Array.toList h1;simp only[b3F] at h1;obtain⟨hq,Iy⟩:=h1;subst Iy;rw[h2] at hq;simp only[b5e] at hq;obtain⟨rfl,rfl,rfl⟩:=hq;rcases h6 with ⟨rfl,_,_⟩|⟨b,f,t,rfl,rfl,k1,k0,k2⟩
 .simp at hi
 .have cJ:∀ d∈xs.map τ.aP,d.size=τ.size:=by
   intro d hd;obtain⟨z,_,rfl⟩:=b3E.1 hd;exact Ty.cM τ z
  obtain⟨g0,g1,g2,rfl,hlen,m1,m2⟩:=bQ.split (xs.map τ.aP) i (τ.aP (xs.getD i τ.zero)) k2 cJ (by simp[List.getD,hi]);obtain⟨v,p0,p1,p2,rfl,q1,q2,q3⟩:=S7 hu cw m1;have hvl:l[i * τ.size+off]?=some v:=by
   rw[b4W,b4d nQ,b5h] at q1;exact q1
  rw[b4n] at cQ;obtain⟨hb,cQ⟩:=cQ;have SS:(p0++p1++p2).Nodup:=by
   rw[b4a,b4a] at cQ;exact cQ.1.2.1
  have hp1:p1.Nodup:=by
   rw[b4a,b4a] at SS;exact SS.1.2.1
  refine⟨rfl,v,p1,hvl,q2,hp1,λ b hb=>by simp[hb],λ w' u' y v' iB hp hw pB BZ hs'=>?_⟩;have dis:∀ c∈g0++(p0++p1++p2)++g2,c∉p1->w'.heap[c]?=w.heap[c]?:=λ c hc hn=>(hw c (b5c _ hc) hn).2 λ e=>by
   simp only[b3t,b5i,b3L] at e;subst e;exact hb hc
  have eL:∀ c,c∈p1->c∈p0++p1++p2:=λ c hc=>by simp[hc]
  rw[b4a,b4a] at cQ;obtain⟨⟨n1,n2,n3⟩,n4,n5⟩:=cQ;have h0:∀ c∈g0++g2,c∉p1:=λ c hc Tw=>by
   rcases b3y.1 hc with hc|hc
   .exact n3 c hc c (eL c Tw) rfl
   .exact n5 c (b3y.2 (.inr (eL c Tw))) c hc rfl
  have h00:∀ c∈p0++p2,c∉p1:=λ c hc Tw=>by
   rw[b4a,b4a] at SS;rcases b3y.1 hc with hc|hc
   .exact SS.1.2.2 c hc c Tw rfl
   .exact SS.2.2 c (by simp[Tw]) c hc rfl
  have hy:=q3 w' u' y v' iB hp (λ c hc=>dis c (by simp at hc ⊢;rcases hc with hc|hc<;>simp[hc]) (h00 c hc)) pB;have eF:=m2 w' (τ.aP y) _ (p0++iB++p2) (λ c hc=>dis c (by simp at hc ⊢;rcases hc with hc|hc<;>simp[hc]) (h0 c hc)) (by simp only[List.length_set,List.length_take,List.length_drop];omega) hy;rw[a2l l _ _ _ v' nQ hlen,<-List.map_set] at eF;obtain⟨t',TC⟩:=(hw b (by simp) λ hc=>hb (by simp[hc])).1 rfl;refine⟨b::(g0++(p0++iB++p2)++g2),⟨_,_,_,cap,rfl,by simp,by simpa using h3,h4,by simpa using h5, .inr ⟨b,_,t',rfl,rfl,TC,by rw[List.length_set];exact k0,eF⟩⟩,?_,?_⟩
  .have hfr:∀ c∈iB,c∈p1\/(c∉p0/\c∉p2):=λ c hc=>(hs' c hc).imp id λ q=>⟨λ q'=>q (by simp[q']),λ q'=>q (by simp[q'])⟩;have th:∀ c∈p0++iB++p2,c∈p0++p1++p2\/(c∉g0/\c∉g2):=λ c hc=>by
    simp only[b3y] at hc;rcases hc with (hc|hc)|hc
    .exact .inl (by simp[hc])
    .rcases hs' c hc with q|q
     .exact .inl (by simp[q])
     .exact .inr ⟨λ q'=>q (by simp[q']),λ q'=>q (by simp[q'])⟩
    .exact .inl (by simp[hc])
   rw[b4n];refine⟨λ hc=>?_,Bt (f1:=p0++p1++p2) (ed (ed n1 n2 λ x hx Dm=>n3 x hx x Dm rfl) n4 λ x hx Dm=>n5 x hx x Dm rfl) (Bt SS BZ hfr) th⟩;simp only[b3y] at hc;rcases hc with (hc|(hc|hc)|hc)|hc
   .exact hb (by simp[hc])
   .exact hb (by simp[hc])
   .rcases hs' b hc with q|q
    .exact hb (by simp[q])
    .exact q (by simp)
   .exact hb (by simp[hc])
   .exact hb (by simp[hc])
  .intro c hc;simp only[b3S,b3y] at hc;rcases hc with hc|(hc|(hc|hc)|hc)|hc
   .exact .inl (by simp[hc])
   .exact .inl (by simp[hc])
   .exact .inl (by simp[hc])
   .exact .inr hc
   .exact .inl (by simp[hc])
   .exact .inl (by simp[hc])
theorem a0g{lk:Nat->Option aA}{k:Int}{z:Value}(hz:VR c G lk w (.aF ⟨.int .i64,k⟩) z):z = .int .i64 k/\O k:=by
 obtain⟨h1,h2,h3⟩:=hz;simp only[b3F,b3L] at h1;refine⟨h1,?_⟩;simp only[IntKind.min,IntKind.max,IntKind.signed,IntKind.bits,b5u] at h2 h3;constructor<;>omega
theorem WN(hE:bE c.P c.E)(h:Inv c G s a w){o:Oper}{f:FuncId}{m:Cp}(hm:c.E.mark f=some m){id i off:Nat}{τ:Ty}{xs:List τ.den}(aZ:s.ah id=some (.aw τ xs)){u:TV}(hu:TV.part ⟨τ,xs.getD i τ.zero⟩ off m.τ=some u){x:m.τ.den}(hx:u.Z9 m.τ=some x)
  (p6:m.τ.agg=false) (nQ:off<τ.size) {k:Int} {y:τ.den} (hy:kI τ (xs.getD i τ.zero) off ⟨m.τ,(m.g x k).2.1⟩=some y) {v z:Value} {d:Nat}
  (hv:VR c G s.ah w (.sub id i off τ.size) v) (hz:VR c G s.ah w (.aF ⟨.int .i64,k⟩) z) (yn:(m.g x k).1.ok) (hd:o.dst=some d) (cG:jG c.P f->(execOp a.eval o).run c.P w = .ok (.enter f [v,z].toArray) w) {Q:Exit->Act->World->Prop} :
  o.wp c.P a w (λ a' w'=>∃ G',Inv c G' ((s.bW.dF id τ (xs.set i y)).put (some d) (.aF ⟨.int .i64,(m.g x k).2.2⟩)) a' w') Q:=by
 obtain⟨nF,ig⟩:=hE.mark f _ hm;obtain⟨rfl,a1y⟩:=a0g hz;obtain⟨_,a0,n,cap,l,eu,eL,hl,_⟩:=hv;have hux:=TV.aW hx;subst hux;obtain⟨rfl,v',f1,p1,p2,p3,p4,p5⟩:=XF (h.aR.tr id τ xs aZ) (h.aR.nd id τ xs aZ) eu eL hu p6 nQ;rw[hl] at p1;simp only[b3t] at p1;subst p1;have hO:Cr w ⟨m.τ,x⟩ v f1:=by
  obtain⟨Lj,g⟩:=m;cases Lj with
  | st s=>cases p6
  | _=>exact p2
 unfold Oper.wp;rw[cG nF];simp only[Oper.upon];refine (ig x k w v f1 yn a1y (h.a6M λ b hb=>(h.aR.pl id τ xs b aZ (p4 b hb)).2.1) hO p3 λ b hb=>(h.aR.pl id τ xs b aZ (p4 b hb)).2.2.1).mono ?_;rintro e w' ⟨rfl,V1,hk,iB,pB,SR,th⟩;have hO2:Ow w' (TV.aP ⟨m.τ,(m.g x k).2.1⟩) [v] iB:=by
  obtain⟨Lj,g⟩:=m;cases Lj with
  | st s=>cases p6
  | _=>exact pB
 have yo:l.set (i * τ.size+off) v=l:=by
  apply b6q;intro j;rw[b6r];split
  .rename_i e;subst e;split
   .exact hl.symm
   .rename_i hn;rw[b5A (by omega)]
  .rfl
 obtain⟨wP,hT,a6Y,hs2⟩:=p5 w' ⟨m.τ,(m.g x k).2.1⟩ y v iB hy (λ b hb hn=>by
  have eR:=hk.block b (h.aR.pl id τ xs b aZ hb).2.2.1 hn;refine⟨λ ha=>?_,λ _=>eR⟩;rw[eR,yo];obtain⟨v0,l0,a1,Vm,q1,q2,_,_,_,q6⟩:=h.aR.tr id τ xs aZ;rw[eu] at q1;simp only[b5a] at q1;have q1:(Value.slice a0 xs.length cap::l)=v0::l0:=congrArg Array.toList q1;simp only[b3F] at q1;obtain⟨r1,r2⟩:=q1;subst r2;rw[q2,ha] at r1;simp only[b5e] at r1;rcases q6 with ⟨_,q7,_⟩|⟨b',f,t,q7,q8,q9,_⟩
  .rw[q7.1] at r1;cases r1.1
  .rw[q7] at r1;have r1:=r1.1;simp only[b3t,b5i,b3L] at r1;subst r1;exact⟨t,q9⟩) hO2 SR (λ b hb=>(th b hb).imp (λ q=>q) λ q q'=>by have:=(h.aR.pl id τ xs b aZ q').2.2.1;omega)
 rw[yo,<-eu] at hT;show ∃ G',Inv c G' ((s.bW.dF id τ (xs.set i y)).put (some d) (.aF ⟨.int .i64,(m.g x k).2.2⟩)) (a.put o.dst (.int .i64 (m.g x k).2.2)) w';rw[hd];refine h.UP (w':=w') (t:=s.bW.dF id τ (xs.set i y)) (A:=[(id,(G.η id,wP, .aw τ (xs.set i y)))]) ?_ ?_ ?_ (by simp) hk (λ b hb=>⟨_,b4e.2 rfl,p4 b hb⟩) rfl (λ i=>?_) (λ G' lk=>Qq V1)
 .intro p hp;simp only[b4e] at hp;subst hp;exact⟨τ,xs,_,_,l,l,aZ,rfl,eu,eu,hT,a6Y⟩
 .intro p hp b hb;simp only[b4e] at hp;subst hp;rcases hs2 b hb with q|q
  .exact .inl ⟨_,b4e.2 rfl,q⟩
  .rcases th b q with q|q
   .exact .inl ⟨_,b4e.2 rfl,p4 b q⟩
   .exact .inr (VM h q.1 q.2)
 .intro p hp q hq b _ _;simp only[b4e] at hp hq;rw[hp,hq]
 .rw[QE,fH]
theorem Oi{lk:Nat->Option aA}:∀ {cs:List AV} {ts:List Ty} {us us':List TV} {ids:List Nat} {l:List Value} {wP:List Nat},sR lk cs ts=some (us,ids)->aT (C1 c G lk w) cs l->us'.map TV.τ=ts->cT w' (us'.map TV.aP) l wP->wP.Nodup->ids.Nodup ->
  (∀ id∈ids,cx (lk id)=true)->∃ A:List (Nat×TE),A.map (·.1)=ids/\(∀ p∈A,a0N G lk w' p.1 p.2)/\(∀ p∈A,∀ b∈p.2.2.1,b∈wP)/\(∀ p∈A,∀ q∈A,∀ b∈p.2.2.1,b∈q.2.2.1->p.1=q.1) /\
   ∀ s:ai,(s.gI cs us').aC=s.aC/\∀ i,(s.gI cs us').ah i=Ut A s.ah i
 | [],[],us,us',ids,l,wP,ht,hl,htt,hO,cQ,hni,hT=>by
  simp only[sR,b3t,b3w] at ht;obtain⟨rfl,rfl⟩:=ht;exact⟨[],rfl,by simp,by simp,by simp,λ s=>by cases us'<;>exact⟨rfl,λ _=>rfl⟩⟩
 | cc::cs,t::ts,us,us',ids,l,wP,ht,hl,htt,hO,cQ,hni,hT=>by
  simp only[sR] at ht;split at ht;case h_2=>cases ht
  case h_1 x i0 hx =>
  split at ht;case h_2=>cases ht
  case h_1 r j hr =>
  simp only[b3t,b3w] at ht;obtain⟨rfl,rfl⟩:=ht;match us',l,htt,hl,hO with
  | u'::us',v::l,htt,hl,hO =>
  simp only[b4o,b3F] at htt;obtain⟨ht1,ht2⟩:=htt;obtain⟨v1,r1,f1,f2,e1,e2,o1,o2⟩:=hO;simp only[b3F] at e1;obtain⟨rfl,rfl⟩:=e1;subst e2;rw[b4a] at cQ hni;obtain⟨nd1,nd2,nd3⟩:=cQ;obtain⟨ni1,ni2,ni3⟩:=hni;obtain⟨A,a1,a2,a3,a4,a5⟩:=Oi hr hl.2 ht2 o2 nd2 ni2 (λ id aZ=>hT id (by simp[aZ]));have skip:i0=[]->(∀ s:ai,(s.gI (cc::cs) (u'::us'))=s.gI cs us')->∃ A:List (Nat×TE),A.map (·.1)=i0++j/\(∀ p∈A,a0N G lk w' p.1 p.2)/\(∀ p∈A,∀ b∈p.2.2.1,b∈f1++f2)/\(∀ p∈A,∀ q∈A,∀ b∈p.2.2.1,b∈q.2.2.1->p.1=q.1) /\
   ∀ s:ai,(s.gI (cc::cs) (u'::us')).aC=s.aC/\∀ i,(s.gI (cc::cs) (u'::us')).ah i=Ut A s.ah i:=λ hi hs =>
   ⟨A,by rw[hi];exact a1,a2,λ p hp b hb=>by simp[a3 p hp b hb],a4,λ s=>by rw[hs];exact a5 s⟩
  cases cc with
  | aF z =>
   simp only[dY] at hx;split at hx
   .simp only[b3t,b3w] at hx;exact skip hx.2.symm λ s=>by obtain⟨bf,y'⟩:=u';cases bf<;>rfl
   .cases hx
  | nil =>
   cases t with
   | slice t' =>
    simp only[dY,b3t,b3w] at hx;exact skip hx.2.symm λ s=>by obtain⟨bf,y'⟩:=u';cases bf<;>rfl
   | _=>cases hx
  | row id =>
   simp only[dY] at hx;split at hx
   .rename_i nP;split at hx
    .simp only[b3t,b3w] at hx;have:=hT id (by rw[<-hx.2];simp);rw[nP] at this;cases this
    .cases hx
   .cases hx
  | aw id =>
   simp only[dY] at hx;split at hx
   .rename_i bf ys nP;split at hx
    .rename_i y' hy';simp only[b3t,b3w] at hx;obtain⟨_,rfl⟩:=hx;have e:=TV.aW hy';have et:Ty.slice bf=t:=congrArg TV.τ e;subst et;obtain⟨Yq,yu⟩:=u';have ht1:Yq=Ty.slice bf:=ht1;subst ht1;obtain⟨_,l0,eu,_⟩:=hl.1;obtain⟨l',XP,_⟩:=iq.a0w (τ:=bf) (xs:=yu) o1;refine⟨(id,(.tuple (v::l').toArray,f1, .aw bf yu))::A,by simp[a1],?_,?_,?_,λ s=>?_⟩
     .intro p hp;rcases b3S.1 hp with rfl|hp
      .exact⟨bf,ys,yu,v,l0,l',nP,rfl,eu,rfl,XP,nd1⟩
      .exact a2 p hp
     .intro p hp b hb;rcases b3S.1 hp with rfl|hp
      .exact b3y.2 (.inl hb)
      .exact b3y.2 (.inr (a3 p hp b hb))
     .intro p hp q hq b hb cz;rcases b3S.1 hp with rfl|hp<;>rcases b3S.1 hq with rfl|hq
      .rfl
      .exact absurd rfl (nd3 b hb b (a3 q hq b cz))
      .exact absurd rfl (nd3 b cz b (a3 p hp b hb))
      .exact a4 p hp q hq b hb cz
     .obtain⟨q1,q2⟩:=a5 (s.dF id bf yu);refine⟨q1,λ i=>?_⟩;have kV:(s.gI (.aw id::cs) (⟨.slice bf,yu⟩::us')).ah i=Ut A (s.dF id bf yu).ah i:=q2 i;rw[kV];have gm:∀ e,ah A id=some e->False:=λ e he=>by
       have:id∈A.map (·.1):=b3E.2 ⟨_,eV he,rfl⟩;rw[a1] at this;exact ni3 id (by simp) id this rfl
      unfold Ut;simp only[ah];by_cases hi:i=id
      .subst hi;cases hA:ah A i with
       | none=>simp[fH]
       | some e=>exact (gm e hA).elim
      .have:Nat.beq id i=false:=by
        cases hb:Nat.beq id i with
        | false=>rfl
        | true=>exact absurd (b3x hb).symm hi
       simp only[this];cases ah A i with
       | none=>simp[fH,hi]
       | some e=>rfl
    .cases hx
   .cases hx
  | _=>cases hx
 | [],_::_,_,_,_,_,_,ht,_,_,_,_,_,_=>by cases ht
 | _::_,[],_,_,_,_,_,ht,_,_,_,_,_,_=>by cases ht
theorem WL(hE:bE c.P c.E)(h:Inv c G s a w){o:Oper}{f:FuncId}{m:Cp}(hm:c.E.mark f=some m){cs:List AV}{x:m.τ.den}{ids:List Nat}(ht:qH s.ah m.τ (.agg cs)=some (x,ids))(cQ:ids.Nodup)(hT:∀ id∈ids,cx (s.ah id)=true)
  {k:Int} {v z:Value} {d:Nat} (hv:VR c G s.ah w (.agg cs) v) (hz:VR c G s.ah w (.aF ⟨.int .i64,k⟩) z) (yn:(m.g x k).1.ok) (hd:o.dst=some d) (cG:jG c.P f->(execOp a.eval o).run c.P w = .ok (.enter f [v,z].toArray) w) {Q:Exit->Act->World->Prop} :
  o.wp c.P a w (λ a' w'=>∃ G',Inv c G' ((s.bW.gI cs (TV.cells ⟨m.τ,(m.g x k).2.1⟩)).put (some d) (.aF ⟨.int .i64,(m.g x k).2.2⟩)) a' w') Q:=by
 obtain⟨nF,ig⟩:=hE.mark f _ hm;obtain⟨rfl,a1y⟩:=a0g hz;obtain⟨fp,hO,SS,lY⟩:=mj h ht hv cQ;have bK:∀ b∈fp,b<w.heap.size:=λ b hb=>by
  obtain⟨id,hi,hq⟩:=lY b hb;rcases hq with ⟨τ,xs,q1,q2⟩|⟨e,τ,xs,q1,q2⟩
  .exact (h.aR.pl id τ xs b q1 q2).2.2.1
  .exact (h.place id _ b q1 q2).2.2
 have PI:∀ b,wK G s.ah ids b->∃ id∈ids,b∈G.φ id:=λ b hb=>by
  obtain⟨id,hi,hq⟩:=hb;rcases hq with ⟨τ,xs,q1,q2⟩|⟨e,τ,xs,q1,q2⟩
  .exact⟨id,hi,q2⟩
  .have:=hT id hi;rw[q1] at this;cases this
 unfold Oper.wp;rw[cG nF];simp only[Oper.upon];refine (ig x k w v fp yn a1y (h.a6M λ b hb=>by
  obtain⟨id,hi,hq⟩:=lY b hb;rcases hq with ⟨τ,xs,q1,q2⟩|⟨e,τ,xs,q1,q2⟩
  .exact (h.aR.pl id τ xs b q1 q2).2.1
  .exact (h.place id _ b q1 q2).2.1) hO SS bK).mono ?_
 rintro e w' ⟨rfl,V1,hk,wP,pB,SR,th⟩;show ∃ G',Inv c G' ((s.bW.gI cs (TV.cells ⟨m.τ,(m.g x k).2.1⟩)).put (some d) (.aF ⟨.int .i64,(m.g x k).2.2⟩)) (a.put o.dst (.int .i64 (m.g x k).2.2)) w';rw[hd];obtain⟨Lj,g⟩:=m;cases Lj with
 | st st =>
  simp only[qH] at ht;split at ht;case h_2=>cases ht
  case h_1 us i0 ka =>
  split at ht;case h_2=>cases ht
  case h_1 y0 hy0 =>
  simp only[b3t,b3w] at ht;obtain⟨rfl,rfl⟩:=ht;obtain⟨l,rfl,hl⟩:=hv;obtain⟨l2,hl2,pB⟩:=pB;simp only[Value.agg.injEq] at hl2;have hl2:l=l2:=congrArg Array.toList hl2;subst hl2;rw[show ((⟨.st st,g⟩:Cp).g y0 k).2.1=(g y0 k).2.1 from rfl,aQ.ct] at pB;obtain⟨A,a1,a2,a3,a4,a5⟩:=Oi (us':=st.cells (g y0 k).2.1) ka hl (aQ.oo st _) pB SR cQ hT;obtain⟨q1,q2⟩:=a5 s.bW;have a9K:∀ id∈i0,∃ p∈A,p.1=id:=λ id aZ=>by
   rw[<-a1] at aZ;obtain⟨p,hp,rfl⟩:=b3E.1 aZ;exact⟨p,hp,rfl⟩
  refine h.UP (w':=w') (t:=s.bW.gI cs (st.cells (g y0 k).2.1)) (A:=A) a2 ?_ a4 (by rw[a1];exact cQ) hk ?_ q1 q2 (λ G' lk=>Qq V1)
  .intro p hp b hb;rcases th b (a3 p hp b hb) with q|q
   .obtain⟨id,hi,p7⟩:=PI b (lY b q);obtain⟨q,hq,rfl⟩:=a9K id hi;exact .inl ⟨q,hq,p7⟩
   .exact .inr (VM h q.1 q.2)
  .intro b hb;obtain⟨id,hi,p7⟩:=PI b (lY b hb);obtain⟨q,hq,rfl⟩:=a9K id hi;exact⟨q,hq,p7⟩
 | _=>cases ht
end
section
variable {c:Ctx} {G:Gh} {s:ai} {a:Act} {w w':World}
theorem Ei(h:Inv c G s a w){o:Oper}{v:AV}{x:Value}{Q:Exit->Act->World->Prop}(hr:(execOp a.eval o).run c.P w = .ok (.value x) w)(hv:VR c G s.ah w v x) :
  o.wp c.P a w (λ a' w'=>∃ G',Inv c G' (s.put o.dst v) a' w') Q:=by
 unfold Oper.wp;rw[hr];exact⟨G,Inv.put h hv⟩
theorem xi{η:Value}{τ:Ty}{xs:List τ.den}{fp:List Nat}(hT:iq w η τ xs fp){a0:Option Addr}{n cap:Nat}{l:List Value}(eu:η = .tuple (.slice a0 n cap::l).toArray){i:Nat}(hi:i<n) :
  n=xs.length/\∃ b f t,a0=some ⟨b,0,none⟩/\fp=b::f/\w.heap[b]?=some (.cells l.toArray t (0,0))/\bQ w (xs.map τ.aP) l f:=by
 obtain⟨v0,l0,a1,Vm,h1,h2,h3,h4,h5,h6⟩:=hT;rw[eu] at h1;simp only[b5a] at h1;have h1:(Value.slice a0 n cap::l)=v0::l0:=congrArg Array.toList h1;simp only[b3F] at h1;obtain⟨hq,Iy⟩:=h1;subst Iy;rw[h2] at hq;simp only[b5e] at hq;obtain⟨rfl,rfl,rfl⟩:=hq;rcases h6 with ⟨rfl,_,_⟩|⟨b,f,t,q1,q2,q3,q4⟩
 .simp at hi
 .exact⟨rfl,b,f,t,q1,q2,q3,q4.2⟩
theorem QM{t:Ty}{x:Value}(h:C1 c G s.ah w (zeroCell t) x)(ht:t.agg=false):Ow w (t.aP t.zero) [x] []:=by
 cases t with
 | slice t' =>
  have h:x = .slice none 0 0:=h;subst h;exact⟨none,0,rfl,b4h _,by simp[maxLen],b4G _, .inl ⟨rfl,⟨rfl,rfl⟩,rfl⟩⟩
 | st s=>cases ht
 | mv t=>exact Ow.ep (S:=G.S) _ rfl h.2
 | ptr=>exact Ow.ep (S:=G.S) _ rfl h.2
 | int k=>exact Ow.ep (S:=G.S) _ rfl h.2
 | bool=>exact Ow.ep (S:=G.S) _ rfl h.2
 | str=>exact Ow.ep (S:=G.S) _ rfl h.2
theorem a5k(s:aQ):∀ t∈s.s7,t.agg=false:=λ t ht=>by
 rw[<-aQ.oo s s.zero] at ht;obtain⟨u,hu,rfl⟩:=b3E.1 ht;exact L1 s _ u hu
theorem a8n{c:Ctx}{G:Gh}{s:ai}{τ:Ty}{z:Value}(h:BB τ z=true):Ow w (τ.aP τ.zero) z.cells.toList []:=by
 have h1:=kK (c:=c) (G:=G) (lk:=s.ah) (w:=w) h;cases τ with
 | st st =>
  simp only[zeroCells] at h1;show Ow w (st.aP st.zero) _ [];rw[aQ.ct];have hz:(st.cells st.zero).map TV.aP=st.s7.map λ t=>t.aP t.zero:=by cases st<;>rfl
  rw[hz];have h2:=aT.of_map _ h1;have:∀ (ts:List Ty) (vs:List Value),aT (λ t x=>Ow w (t.aP t.zero) [x] []) ts vs->cT w (ts.map λ t=>t.aP t.zero) vs []:=by
   intro ts;induction ts with
   | nil=>intro vs h;cases vs<;>first|exact⟨rfl,rfl⟩|cases h
   | cons t ts ih =>
    intro vs h;cases vs with
    | nil=>cases h
    | cons v vs=>exact⟨v,vs,[],[],rfl,rfl,h.1,ih vs h.2⟩
  exact this _ _ (h2.imp λ t x ht hx=>QM hx (a5k st t ht))
 | _ =>
  simp only[zeroCells] at h1;match hc:z.cells.toList,h1 with
  | [x],h1=>exact QM h1.1 rfl
theorem bQ.a0P:∀ (ds:List D) {es:List D} {l m:List Value} {n:Nat},bQ w ds l []->(∀ d∈ds,d.size=n)->l.length=ds.length * n->bQ w es m []->bQ w (ds++es) (l++m) []
 | [],es,l,m,n,_,_,hl,h=>by
  have:l=[]:=List.eq_nil_of_length_eq_zero (by simpa using hl);subst this;simpa using h
 | d::ds,es,l,m,n,h,hn,hl,h'=>by
  obtain⟨cc,r,f1,f2,rfl,hf,h3,h4⟩:=h;have hf:=(List.append_eq_nil_iff.1 hf.symm);obtain⟨rfl,rfl⟩:=hf;have hc:cc.length=n:=by rw[Ow.length _ h3];exact hn d (by simp)
  refine⟨cc,r++m,[],[],by simp,rfl,h3,bQ.a0P ds h4 (λ d hd=>hn d (by simp[hd])) ?_ h'⟩;simp only[b3J,b3G,b4O,Nat.one_mul] at hl;omega
theorem bQ.more:∀ (ds:List D) {l:List Value} {fp:List Nat} (m:List Value),bQ w ds l fp->bQ w ds (l++m) fp
 | [],_,_,_,h=>h
 | d::ds,_,_,m,h=>by
  obtain⟨cc,r,f1,f2,rfl,hf,h3,h4⟩:=h;exact⟨cc,r++m,f1,f2,by simp,hf,h3,bQ.more ds m h4⟩
theorem LF{d:D}{z:Array Value}(h:Ow w d z.toList []):∀ k:Nat,bQ w (List.replicate k d) (madeCells z (k * z.size)).toList []
 | 0=>rfl
 | k+1=>by
  have hz:d.size=z.size:=by have:=Ow.length _ h;simpa using this.symm
  rw[Gv,b6d];refine bQ.a0P (n:=z.size) _ (LF h k) (λ e he=>by rw[List.eq_of_mem_replicate he];exact hz) (by simp[madeCells]) ⟨z.toList,[],[],[],by simp,rfl,h,rfl⟩
theorem Rf(h:Inv c G s a w)(id:Nat):Inv c G (s.gone id) a w:=by
 obtain⟨h1,_,_⟩:=h.clear id;have cr:(s.gone id).ah=λ i=>if i=id then none else (s.cp id).ah i:=by
  funext i;exact eH id _ i
 unfold Inv;show bu c G (s.cp id).sl (s.cp id).aC.length (s.gone id).ah a w;rw[cr,show (s.cp id).aC.length=s.aC.length from by simp[ai.cp]];exact h1
theorem Fe(s:ai)(id i:Nat):(s.gone id).ah i=if i=id then none else (s.ah i).map (aA.kill id):=by
 show ah (bR id (s.cp id).aK) i=_;rw[eH,<-congrFun (eh s id) i];rfl
theorem ye:∀ (ids:List Nat) {s:ai},Inv c G s a w->Inv c G (ids.foldl ai.gone s) a w
 | [],_,h=>h
 | id::r,_,h=>ye r (Rf h id)
theorem a3n(id:Nat){τ:Ty}{xs:List τ.den}{o:Option aA}(h:o=some (.aw τ xs)):o.map (aA.kill id)=some (.aw τ xs):=by subst h;rfl
theorem SM:∀ (ids:List Nat) {s:ai} {id:Nat} {τ:Ty} {xs:List τ.den},s.ah id=some (.aw τ xs)->id∉ids->(ids.foldl ai.gone s).ah id=some (.aw τ xs)
 | [],_,_,_,_,h,_=>h
 | i::r,s,id,τ,xs,h,hn=>by
  refine SM r ?_ (λ hh=>hn (by simp[hh]));rw[Fe,b3H (λ e=>hn (by simp[e]))];exact a3n i h
theorem Mz:∀ (ids:List Nat) {s:ai} {i:Nat} {o:aA},(ids.foldl ai.gone s).ah i=some o->i∉ids/\∃ o',s.ah i=some o'/\∀ τ xs,o = .aw τ xs->o' = .aw τ xs
 | [],s,i,o,h=>⟨by simp,o,h,λ _ _ e=>e⟩
 | id::r,s,i,o,h=>by
  obtain⟨h1,o',h2,h3⟩:=Mz r h;rw[Fe] at h2;split at h2
  .cases h2
  .rename_i eQ;simp only[b4t] at h2;obtain⟨p,hp,hk⟩:=h2;refine⟨by simp[eQ,h1],p,hp,λ τ xs e=>?_⟩;have:=h3 τ xs e;subst this;have hm:(some p).map (aA.kill id)=some (.aw τ xs):=by rw[<-hk];rfl
   have:=jy hm;simpa using this
theorem JD{o:Oper}{T:TypeId}{ad x:Operand}(bx:o.op = .store T ad x){w':World}{s':ai}{G':Gh}(hr:(Instr.storeAt T (a.eval ad) (a.eval x)).run c.P w = .ok () w')(hI:Inv c G' (s'.put none .any) a w'){Q:Exit->Act->World->Prop} :
  o.wp c.P a w (λ a' w'=>∃ G',Inv c G' (s'.put o.dst .any) a' w') Q:=by
 unfold Oper.wp;have:(execOp a.eval o).run c.P w = .ok .skip w':=by simp only[execOp,bx,Sem.run_bind,hr,Result.andThen_ok,Sem.run_pure]
 rw[this];exact⟨G',Inv.put (s:=s') hI trivial⟩
theorem Xv(hE:bE c.P c.E)(h:Inv c G s a w){T:TypeId}{τ bf:Ty}{bt e:Nat}(hT:ah c.E.ty T=some (τ,bt,e)){id i off:Nat}{xs:List bf.den}(aZ:s.ah id=some (.aw bf xs)){p x:Value}(hp:VR c G s.ah w (.eP id i off bf.size) p)(nQ:off+τ.size<=bf.size)
  (uQ:x.cells.toList.length=τ.size) (Ix:∀ u∈x.cells.toList,u.oneCell'=true) {y:bf.den}
  (hO:∀ (b:Nat) (f:List Nat) (l:List Value) (w':World),G.φ id=b::f->l.length>=i * bf.size+bf.size->bQ w (xs.map bf.aP) l f->(∀ k,k≠b->w'.heap[k]?=w.heap[k]?) ->
   ∃ f',bQ w' ((xs.set i y).map bf.aP) (l.take (i * bf.size+off)++x.cells.toList++l.drop (i * bf.size+off+τ.size)) f'/\f'.Nodup/\b∉f'/\∀ k∈f',k∈f\/wJ c G s.ah w k) :
  ∃ w' G',(Instr.storeAt T p x).run c.P w = .ok () w'/\Inv c G' (s.bW.dF id bf (xs.set i y)) a w':=by
 obtain⟨_,b,n,cap,l,eu,hi,rfl⟩:=hp;obtain⟨rfl,b',f,t,e1,lY,hh,eF⟩:=xi (h.aR.tr id bf xs aZ) eu hi;simp only[b3t,b5i,b3L] at e1;subst e1;have cJ:∀ d∈xs.map bf.aP,d.size=bf.size:=by
  intro d hd;obtain⟨z,_,rfl⟩:=b3E.1 hd;exact Ty.cM bf z
 obtain⟨_,_,_,_,hlen,_,_⟩:=bQ.split (xs.map bf.aP) i (bf.aP (xs.getD i bf.zero)) eF cJ (by simp[List.getD,hi]);have cG:=wZ (c:=c) (l:=l) hE hT (o:=i * bf.size+off) (x:=x) hh uQ Ix (by omega);have Dk:∀ k,k≠b->(w.setRow b (l.take (i * bf.size+off)++x.cells.toList++l.drop (i * bf.size+off+τ.size)).toArray).heap[k]?=w.heap[k]?:=λ k hk=>mJ w hh k hk;obtain⟨f',k1,k2,k3,k4⟩:=hO b f l _ lY hlen eF Dk;have qU:=b7y w b l.toArray (l.take (i * bf.size+off)++x.cells.toList++l.drop (i * bf.size+off+τ.size)).toArray t (0,0) hh;have XP:iq (w.setRow b (l.take (i * bf.size+off)++x.cells.toList++l.drop (i * bf.size+off+τ.size)).toArray) (.tuple (.slice (some ⟨b,0,none⟩) xs.length cap::(l.take (i * bf.size+off)++x.cells.toList++l.drop (i * bf.size+off+τ.size))).toArray) bf (xs.set i y) (b::f'):=by
  obtain⟨v0,l0,a1,Vm,h1,h2,h3,h4,h5,h6⟩:=h.aR.tr id bf xs aZ;rw[eu] at h1;simp only[b5a] at h1;have h1:(Value.slice (some ⟨b,0,none⟩) xs.length cap::l)=v0::l0:=congrArg Array.toList h1;simp only[b3F] at h1;obtain⟨hq,Iy⟩:=h1;rw[h2] at hq;simp only[b5e] at hq;obtain⟨rfl,_,rfl⟩:=hq;have FY:l.length=cap * bf.size:=by
   rw[Iy];rcases h6 with ⟨_,h',_⟩|⟨_,_,_,_,_,_,k0,_⟩
   .cases h'.1
   .exact k0
  exact⟨_,_,_,cap,rfl,by simp,by simpa using h3,h4,by simpa using h5, .inr ⟨b,f',t,rfl,rfl,qU,by rw[<-FY];simp only[List.length_append,List.length_take,List.length_drop,uQ];omega,k1⟩⟩
 have hpl:=h.aR.pl id bf xs;have:=h.UP (w':=w.setRow b (l.take (i * bf.size+off)++x.cells.toList++l.drop (i * bf.size+off+τ.size)).toArray) (t:=s.bW.dF id bf (xs.set i y)) (F:=λ k=>k=b)
  (A:=[(id,(.tuple (.slice (some ⟨b,0,none⟩) xs.length cap::(l.take (i * bf.size+off)++x.cells.toList++l.drop (i * bf.size+off+τ.size))).toArray,b::f', .aw bf (xs.set i y)))]) ?_ ?_ ?_ (by simp)
  ⟨rfl,rfl,rfl,by simp[World.setRow],λ k hk eQ=>Dk k eQ⟩ (λ k hk=>⟨_,b4e.2 rfl,by rw[lY,hk];simp⟩) rfl (λ j=>?_) (d:=none) (v := .any) (x:=undef) (λ _ _=>trivial)
 .obtain⟨G',hG⟩:=this;exact⟨_,G',cG,hG⟩
 .intro p hp;simp only[b4e] at hp;subst hp;exact⟨bf,xs,_,_,l,_,aZ,rfl,eu,rfl,XP,b4n.2 ⟨k3,k2⟩⟩
 .intro p hp k hk;simp only[b4e] at hp;subst hp;rcases b3S.1 hk with rfl|hk
  .exact .inl ⟨_,b4e.2 rfl,by rw[lY];simp⟩
  .rcases k4 k hk with hk|hk
   .exact .inl ⟨_,b4e.2 rfl,by rw[lY];simp[hk]⟩
   .exact .inr (hk.grow (by simp[World.setRow]))
 .intro p hp q hq k _ _;simp only[b4e] at hp hq;rw[hp,hq]
 .rw[QE,fH]
theorem Cr.cells{w:World}{τ:Ty}{y:τ.den}{x:Value}{fp:List Nat}(h:Cr w ⟨τ,y⟩ x fp):Ow w (τ.aP y) x.cells.toList fp:=by
 cases τ with
 | st s =>
  obtain⟨cs,rfl,h⟩:=h;exact h
 | slice t =>
  obtain⟨a',cap,h1,_⟩:=id h;simp only[b3F,b3L] at h1;subst h1;exact h
 | mv t =>
  have h1:=Ow.length _ (show Ow w (mvD t.size t.aP y) [x] fp from h);cases hy:(show Option (List t.den) from y) with
  | none =>
   have e:y=(none:Option (List t.den)):=hy;subst e;obtain⟨⟨a',n,m,h1⟩,_⟩:=id h;simp only[b3F,b3L] at h1;subst h1;exact h
  | some l =>
   have e:y=(some l:Option (List t.den)):=hy;subst e;obtain⟨a',cap,h1,_⟩:=id h;simp only[b3F,b3L] at h1;subst h1;exact h
 | ptr=>obtain⟨⟨p,h1⟩,_⟩:=id h;simp only[b3F,b3L] at h1;subst h1;exact h
 | int k=>obtain⟨⟨h1,_⟩,_⟩:=id h;simp only[b3F,b3L] at h1;subst h1;exact h
 | bool=>have h1:=h.1;simp only[b3F,b3L] at h1;subst h1;exact h
 | str=>obtain⟨⟨z,h1,_⟩,_⟩:=id h;simp only[b3F,b3L] at h1;subst h1;exact h
theorem Xo(l:List Value)(k:Nat)(v:Value)(h:k<l.length):l.take k++[v]++l.drop (k+1)=l.set k v:=by
 rw[List.set_eq_take_append_cons_drop,b4d h,b4x];rfl
theorem O7(h:Inv c G s a w){ids:List Nat}{b:Nat}(hb:wK G s.ah ids b):wJ c G (ids.foldl ai.gone s).ah w b:=by
 obtain⟨id,hi,hq⟩:=hb;have hp:(c.w0.heap.size<=b\/c.X b)/\¬ G.S b/\b<w.heap.size:=by
  rcases hq with ⟨τ,xs,q1,q2⟩|⟨e,τ,xs,q1,q2⟩
  .obtain⟨p1,p2,p3,_⟩:=h.aR.pl id τ xs b q1 q2;exact⟨p1,p2,p3⟩
  .obtain⟨p1,p2,p3⟩:=h.place id _ b q1 q2;exact⟨p1,p2,p3⟩
 refine⟨hp.1,hp.2.1,hp.2.2,λ i o cF p7=>?_,λ j τ xs hj nA=>?_⟩
 .obtain⟨h1,o',h2,_⟩:=Mz ids cF;rcases hq with ⟨τ,xs,q1,q2⟩|⟨e,τ,xs,q1,q2⟩
  .exact (h.aR.pl id τ xs b q1 q2).2.2.2 i o' h2 p7
  .have:=h.apart i id o' _ b h2 q1 p7 q2;subst this;exact h1 hi
 .obtain⟨h1,o',h2,h3⟩:=Mz ids hj;have:=h3 τ xs rfl;subst this;rcases hq with ⟨bf,cR,q1,q2⟩|⟨e,bf,cR,q1,q2⟩
  .have:=h.aR.ap j id _ _ _ _ b h2 q1 nA q2;subst this;exact h1 hi
  .exact (h.aR.pl j τ xs b h2 nA).2.2.2 id _ q1 q2
theorem Uw{l:List Operand}{u v:AV}(h:Inv c G s a w)(hl:l.map s.eval=[u,v]):∃ x y,l.map a.eval=[x,y]/\VR c G s.ah w u x/\VR c G s.ah w v y:=by
 have:=aT.lC (br h) l;rw[hl] at this;match hx:l.map a.eval,this with
 | [x,y],hh=>exact⟨x,y,rfl,hh.1,hh.2.1⟩
theorem Ic{lk:Nat->Option aA}{id i sz:Nat}(hit:cx (lk id)=true){a0:Option Addr}{n cap:Nat}{l:List Value}(eu:G.η id = .tuple (.slice a0 n cap::l).toArray)(eL:i<n):∀ (us:List TV) (j:Nat) (cs:List Value) (fp:List Nat),(∀ u∈us,a2S u.τ=true) ->
  cT w (us.map TV.aP) cs fp->(∀ k x,cs[k]?=some x->l[i * sz+(j+k)]?=some x)->aT (C1 c G lk w) (Q9 id i sz j us) cs
 | [],j,cs,fp,_,h,_=>by
  obtain⟨rfl,_⟩:=h;trivial
 | ⟨τ,y⟩::us,j,cs,fp,X0,h,hl=>by
  obtain⟨v,r,f1,f2,rfl,rfl,h3,h4⟩:=h;have ih:=Ic hit eu eL us (j+1) r f2 (λ u hu=>X0 u (List.mem_cons_of_mem _ hu)) h4 (λ k x hk=>by have:=hl (k+1) x (by simpa using hk);rwa [show j+(k+1)=j+1+k by omega] at this);have ho:a2S τ=true:=X0 ⟨τ,y⟩ (by simp);have hv:=hl 0 v rfl;refine⟨?_,ih⟩;cases τ with
  | slice t =>
   refine⟨hit,_,_,_,_,eu,eL,hv,?_⟩;obtain⟨a',SE,q,_⟩:=h3;simp only[b3F,b3L] at q;exact⟨_,_,_,q⟩
  | mv t=>cases ho
  | st s=>cases ho
  | int k=>exact⟨rfl,h3.1⟩
  | bool=>exact⟨rfl,h3.1⟩
  | str=>exact⟨rfl,h3.1⟩
  | ptr=>exact⟨rfl,h3.1⟩
theorem a3G(hE:bE c.P c.E)(h:Inv c G s a w){o:Oper}{vc:Vc}{s':ai}(hq:oop c.E s o=some (vc,s'))(er:vc.ok){Q:Exit->Act->World->Prop} :
  o.wp c.P a w (λ a' w'=>∃ G',Inv c G' s' a' w') Q:=by
 unfold oop at hq;split at hq;case h_1 T x ix bx =>
  split at hq;case h_2=>cases hq
  case h_1 τ r hT =>
  split at hq;case h_2=>cases hq
  case h_1 k i id hi hx =>
  split at hq;case h_2=>cases hq
  case h_1 bf xs aZ =>
  split at hq;case h_2=>cases hq
  case h_1 jr =>
  have cJ:bf.size=τ.size:=by
   simp only[b5o] at jr;rcases jr with jr|jr
   .rw[b4l jr]
   .unfold Ty.a9T at jr;split at jr
    .rename_i p q;have e:=congrArg List.length (b4l jr);rw[b3M] at e;have e1:=congrArg List.length (aQ.oo p p.zero);have e2:=congrArg List.length (aQ.oo q q.zero);rw[b3M,aQ.iS] at e1 e2;simp only[Ty.size];omega
    .cases jr
  simp only[b3t,b3w] at hq;obtain⟨rfl,rfl⟩:=hq;have uO:=br h ix;rw[hi] at uO;obtain⟨uO,_⟩:=uO;simp only[b3F,b3L] at uO;have hv:=br h x;rw[hx] at hv;obtain⟨hit,l,eu,ad,m,cap,E5⟩:=hv;obtain⟨h0,h1⟩:=er;have hTr:=h.aR.tr id bf xs aZ;rw[E5] at eu;have hm:m=xs.length:=by
   obtain⟨v0,l0,a1,Vm,q1,q2,_⟩:=hTr;rw[eu] at q1;simp only[b5a] at q1;have q1:(Value.slice ad m cap::l)=v0::l0:=congrArg Array.toList q1;simp only[b3F] at q1;rw[q2] at q1;simp only[b5e] at q1;exact q1.1.2.1
  subst hm;obtain⟨_,b,f,t,e1,_⟩:=xi hTr eu (i:=i.toNat) (by omega);subst e1;refine Ei h (x := .pointer (some ⟨b,0+i.toNat * τ.size,none⟩)) ?_ ⟨hit,b,_,cap,l,eu,by omega,by simp⟩;simp only[execOp,bx,E5,uO,b4c,qF hE hT h0 h1,b3X,b4i]
 case h_2 T x i bx =>
  split at hq;case h_2=>cases hq
  case h_1 st r hT =>
  split at hq;case h_2=>cases hq
  case h_1 id k off sz hx =>
  split at hq;case h_2=>cases hq
  case h_1 bK =>
  simp only[Option.some.injEq,Prod.mk.injEq] at hq;obtain⟨rfl,rfl⟩:=hq;have bK:i<st.fu.length:=by simpa [Nat.blt_eq] using bK
  have hv:=br h x;rw[hx] at hv;obtain⟨h1,b,m,cap,l,h2,h3,h4⟩:=hv;refine Ei h (x := .pointer (some ⟨b,k * sz+(off+st.eW i),none⟩)) ?_ ⟨h1,b,m,cap,l,h2,h3,rfl⟩;simp only[execOp,bx,h4,b4c,kt hE hT bK,b3X,b4i,b6s]
 case h_3 T ad bx =>
  split at hq;case h_2=>cases hq
  case h_1 τ r hT =>
  split at hq;case h_2=>cases hq
  case h_1 id i off sz hx =>
  split at hq;case h_2=>cases hq
  case h_1 bf xs aZ =>
  split at hq;case h_2 =>
   unfold a1I at hq;split at hq;case h_2=>cases hq
   case h_1 q gm =>
   clear gm;split at hq;case h_2=>cases hq
   case h_1 y hb hy =>
   simp only[b3t,b3w] at hq;obtain⟨rfl,rfl⟩:=hq;have hpq:bf = .st q/\HEq (xs.getD i bf.zero) y:=by
    have e:=TV.aW hy;simp only[TV.mk.injEq] at e;exact e
   obtain⟨rfl,e2⟩:=hpq;have e2:=b6H e2;simp only[b3A] at hb;obtain⟨yi,EW,Rh⟩:=hb;have yi:=b3x yi;have EW:=b3x EW;subst yi EW;have hv:=br h ad;rw[hx] at hv;obtain⟨h1,b,m,cap,l,h2,h3,h4⟩:=hv;have XP:=h.aR.tr id _ xs aZ;obtain⟨hn,b',f,t,e1,PI,hh,eF⟩:=xi XP h2 h3;simp only[b3t,b5i,b3L] at e1;subst e1;have Wf:i<xs.length:=by omega
   have FY:l.length=cap * q.size/\xs.length<=cap:=by
    obtain⟨v0,l0,a1,Vm,k1,k2,k3,k4,k5,k6⟩:=XP;rw[h2] at k1;simp only[b5a] at k1;have k1:(Value.slice (some ⟨b,0,none⟩) m cap::l)=v0::l0:=congrArg Array.toList k1;simp only[b3F] at k1;obtain⟨k7,rfl⟩:=k1;rw[k2] at k7;simp only[b5e] at k7;obtain⟨_,_,rfl⟩:=k7;rcases k6 with ⟨rfl,_,_⟩|⟨_,_,_,_,_,_,k8,_⟩
    .simp at Wf
    .exact⟨k8,k3⟩
   have cJ:∀ d∈xs.map (Ty.aP (.st q)),d.size=q.size:=λ d hd=>by
    obtain⟨z,_,rfl⟩:=b3E.1 hd;exact Ty.cM (.st q) z
   obtain⟨f0,f1,f2,hf,m0,m1,m2⟩:=bQ.split (xs.map (Ty.aP (.st q))) i (Ty.aP (.st q) (xs.getD i (Ty.zero (.st q)))) eF cJ (by simp[List.getD,Wf]);have wh:((l.drop (i * q.size)).take q.size).length=q.size:=by
    rw[b3R,b4L,FY.1];have:i * q.size+q.size<=cap * q.size:=by rw[<-Nat.succ_mul];exact b5v _ (by omega)
    omega
   have m1:cT w ((q.cells y).map TV.aP) ((l.drop (i * q.size)).take q.size) f1:=by
    have:=m1;rw[show Ty.aP (.st q) (xs.getD i (Ty.zero (.st q)))=q.aP (xs.getD i (Ty.zero (.st q))) from rfl,aQ.ct] at this;rw[<-e2];exact this
   have SQ:∀ k x,((l.drop (i * q.size)).take q.size)[k]?=some x->l[i * q.size+k]?=some x:=λ k x hk=>by
    rw[b4W] at hk;split at hk
    .rwa [b5h] at hk
    .cases hk
   have nB:cd w b (i * q.size+0) ((l.drop (i * q.size)).take q.size):=λ j z hj=>by
    simp[World.cell?,hh,SQ j z hj]
   refine Ei h (x := .agg ((l.drop (i * q.size)).take q.size).toArray) ?_ ⟨_,rfl,Ic h1 h2 h3 (q.cells y) 0 _ f1 (λ u hu=>?_) m1 (λ k x hk=>by rw[b5b];exact SQ k x hk)⟩
   .simp only[execOp,bx,h4,b4c,jM hE hT nB wh,b3X,b4i];rfl
   .have:u.τ∈q.s7:=by rw[<-aQ.oo q y];exact b3E.2 ⟨u,hu,rfl⟩
    exact b4r.1 Rh _ this
  case h_1 u hu hb =>
  simp only[Bool.and_eq_true,Bool.not_eq_true'] at hb;obtain⟨yi,EW,Rh⟩:=hb;have yi:=Nat.eq_of_beq_eq_true yi;subst yi;have Rh:off<bf.size:=by simpa [Nat.blt_eq] using Rh
  have hv:=br h ad;rw[hx] at hv;obtain⟨h1,b,m,cap,l,h2,h3,h4⟩:=hv;obtain⟨rfl,v,f1,p1,p2,_⟩:=XF (h.aR.tr id bf xs aZ) (h.aR.nd id bf xs aZ) h2 h3 hu EW Rh;obtain⟨_,b',f,t,e1,_,hh,_⟩:=xi (h.aR.tr id bf xs aZ) h2 h3;simp only[b3t,b5i,b3L] at e1;subst e1;have nB:cd w b (i * bf.size+off) [v]:=λ j z hj=>by
   cases j with
   | zero =>
    simp at hj;subst hj;simp[World.cell?,hh,p1]
   | succ j=>simp at hj
  have hs1:τ.size=1:=Ty.jC EW;have cG:(execOp a.eval o).run c.P w = .ok (.value (La τ [v])) w:=by
   simp only[execOp,bx,h4,b4c,jM hE hT nB (by rw[hs1];rfl),b3X,b4i]
  have hmk:La τ [v]=v:=by cases τ<;>first|rfl|cases EW
  rw[hmk] at cG;have hut:u.τ=τ:=by
   unfold TV.part at hu;split at hu
   .rename_i iD;simp only[b3A] at iD;simp only[b3t] at hu;rw[<-hu];exact b4l iD.2
   .split at hu
    .split at hu
     .rename_i hd;simp only[b3t] at hu;rw[<-hu];exact b4l hd
     .cases hu
    .cases hu
  split at hq;case h_1 E4 =>
   simp only[b3t,b3w] at hq;obtain⟨rfl,rfl⟩:=hq;refine Ei h cG ?_;obtain⟨Yq,yu⟩:=u;have hut:Yq=τ:=hut;subst hut;have hl:(Ty.aP Yq yu).light=true:=tT E4 yu;have hr:Rd w G.S (Ty.aP Yq yu) [v]:=by
    cases Yq with
    | int k=>exact p2.1
    | bool=>exact p2.1
    | str=>exact p2.1
    | slice t=>cases E4
    | mv t=>cases E4
    | ptr=>exact p2.1
    | st s=>cases E4
   cases Yq with
   | mv t=>cases E4
   | st s=>cases E4
   | slice t=>cases E4
   | _=>exact hr
  case h_2 E4 =>
   simp only[b3t,b3w] at hq;obtain⟨rfl,rfl⟩:=hq;refine Ei h cG ⟨h1,_,_,cap,l,h2,h3,p1,?_⟩;obtain⟨Yq,yu⟩:=u;have hut:Yq=τ:=hut;subst hut;cases Yq with
   | slice t =>
    obtain⟨a',SE,q,_⟩:=p2;simp only[b3F,b3L] at q;exact⟨_,_,_,q⟩
   | st s=>cases EW
   | mv t =>
    cases hy:(show Option (List t.den) from yu) with
    | none =>
     have e:yu=(none:Option (List t.den)):=hy;subst e;obtain⟨⟨a',n,m,q⟩,_⟩:=p2;simp only[b3F,b3L] at q;exact⟨_,_,_,q⟩
    | some l =>
     have e:yu=(some l:Option (List t.den)):=hy;subst e;obtain⟨a',SE,q,_⟩:=p2;simp only[b3F,b3L] at q;exact⟨_,_,_,q⟩
   | int k=>cases E4
   | bool=>cases E4
   | str=>cases E4
   | ptr=>cases E4
 case h_4 T ad x bx =>
  split at hq;case h_2=>cases hq
  case h_1 τ r hT =>
  split at hq;case h_2=>cases hq
  case h_1 id i off sz hx =>
  split at hq;case h_2=>cases hq
  case h_1 bf xs aZ =>
  split at hq;case h_2=>cases hq
  case h_1 hb =>
  simp only[Bool.and_eq_true] at hb;obtain⟨yi,Rh⟩:=hb;have yi:=Nat.eq_of_beq_eq_true yi;subst yi;have Rh:off<bf.size:=by simpa [Nat.blt_eq] using Rh
  have hp:=br h ad;rw[hx] at hp;have hxv:=br h x;have eL:i<xs.length:=by
   obtain⟨_,b,m,cap,l,h2,h3,_⟩:=hp;obtain⟨h4,_⟩:=xi (h.aR.tr id bf xs aZ) h2 h3;omega
  split at hq;case h_1 E4 =>
   split at hq;case h_2=>cases hq
   case h_1 u j hu =>
   split at hq;case h_2=>cases hq
   case h_1 u0 y hu0 hy =>
   simp only[b3t,b3w] at hq;obtain⟨rfl,rfl⟩:=hq;have p6:τ.agg=false:=by cases τ<;>first|rfl|cases E4
   have hs1:τ.size=1:=Ty.jC p6;have nB:(a.eval x).cells.toList=[a.eval x]/\(a.eval x).oneCell'=true/\Ow w (τ.aP u) [a.eval x] []:=by
    have hc:C1 c G s.ah w (s.eval x) (a.eval x)/\(s.eval x).cell=true:=by
     have hcc:(s.eval x).cell=true:=by
      revert hu;cases cU:s.eval x with
      | aF v =>
       intro hu;simp only[dY] at hu;split at hu
       .rename_i hy';have e:=TV.aW hy';subst e;cases τ<;>first|rfl|cases p6
       .cases hu
      | nil=>intro hu;cases τ<;>first|(cases E4;done)|(cases hu;done)
      | aw id=>intro hu;simp[dY] at hu
      | row id=>intro hu;simp[dY] at hu
      | _=>intro hu;cases hu
     exact⟨hxv.Zy hcc,hcc⟩
    obtain⟨q1,q2⟩:=hc.1.leaf hc.2;refine⟨by rw[q2],q1,?_⟩;revert hu;have Rj:=hc.1;revert Rj;cases s.eval x with
    | aF v =>
     intro Rj hu;simp only[dY] at hu;split at hu
     .rename_i b2p hy';have e:=TV.aW hy';subst e;simp only[b3t,b3w] at hu;rw[<-hu.1];exact Ow.ep (S:=G.S) _ (tT b2p _) Rj.2
     .cases hu
    | nil=>intro _ hu;cases τ<;>first|(cases E4;done)|(cases hu;done)
    | aw id=>intro _ hu;simp[dY] at hu
    | row id=>intro _ hu;simp[dY] at hu
    | _=>intro _ hu;cases hu
   obtain⟨c1,c2,c3⟩:=nB;obtain⟨w',G',k1,k2⟩:=Xv hE h hT aZ hp (y:=y) (x:=a.eval x) (by omega) (by rw[c1,hs1];rfl) (by rw[c1];simpa using c2) (λ b f l w' PI hlen eF Dk=>by
    have cJ:∀ d∈xs.map bf.aP,d.size=bf.size:=by
     intro d hd;obtain⟨z,_,rfl⟩:=b3E.1 hd;exact Ty.cM bf z
    have cQ:=h.aR.nd id bf xs aZ;rw[PI,b4n] at cQ;obtain⟨XQ,V4⟩:=cQ;have gd:∀ k∈f,w'.heap[k]?=w.heap[k]?:=λ k hk=>Dk k λ e=>XQ (e ▸ hk);obtain⟨g0,g1,g2,rfl,_,m1,m2⟩:=bQ.split (xs.map bf.aP) i (bf.aP (xs.getD i bf.zero)) eF cJ (by simp[List.getD,eL]);obtain⟨v,p0,p1,p2,rfl,q1,q2,q3⟩:=S7 hu0 p6 m1;have hy2:=q3 w' ⟨τ,u⟩ y (a.eval x) [] hy (λ k hk=>gd k (by simp at hk ⊢;rcases hk with hk|hk<;>simp[hk])) (c3.aS _ (by simp));have hr:=m2 w' (bf.aP y) _ (p0++[]++p2) (λ k hk=>gd k (by simp at hk ⊢;rcases hk with hk|hk<;>simp[hk])) (by simp only[b4Y,b3R,b4L];omega) hy2;rw[a2l l _ _ _ _ Rh hlen,<-b6x] at hr;refine⟨_,by rw[c1,hs1,Xo _ _ _ (by omega)];exact hr,?_,λ hk=>XQ ?_,λ k hk => .inl ?_⟩
    .refine Bt (f1:=p0++p1++p2) V4 (Bt (f1:=p1) ?_ b4I (by simp)) (λ k hk => .inl (by simp at hk ⊢;rcases hk with hk|hk<;>simp[hk]));rw[b4a,b4a] at V4;exact V4.1.2.1
    .simp at hk ⊢;rcases hk with hk|hk|hk|hk<;>simp[hk]
    .simp at hk ⊢;rcases hk with hk|hk|hk|hk<;>simp[hk])
   exact JD bx k1 k2
  case h_2 E4 =>
   split at hq;case h_2=>cases hq
   case h_1 y ids nQ ht =>
   split at hq;case h_2=>cases hq
   case h_1 y' cQ hy' =>
   simp only[b3t,b3w] at hq;obtain⟨rfl,rfl⟩:=hq;have nQ:=b3x nQ;subst nQ;have e:=TV.aW hy';have et:τ=bf:=congrArg TV.τ e;subst et;cases e;have cQ:=cW cQ;rw[b4n] at cQ;obtain⟨a9J,a8F⟩:=cQ;obtain⟨fq,o1,o2,o3⟩:=mj h ht hxv a8F;have ka:=Cr.cells o1;have hlen:=Ow.length _ ka;rw[Ty.cM] at hlen;have h1:=ye ids h;have Y1:=SM ids aZ a9J;obtain⟨_,b0,m0,b1G,l0,b2t,hi0,hp0⟩:=hp;obtain⟨w',G',k1,k2⟩:=Xv hE h1 hT Y1 (i:=i) (off:=0) (p:=a.eval ad) ⟨by rw[Y1];rfl,b0,m0,b1G,l0,b2t,hi0,hp0⟩ (y:=y) (x:=a.eval x) (by omega) hlen
    (Rd.mX (S:=λ b=>b∈fq) (x:=y) (Ow.rd _ ka λ b hb=>hb)) (λ b f l w' PI b3a eF Dk=>by
    have cJ:∀ d∈xs.map τ.aP,d.size=τ.size:=by
     intro d hd;obtain⟨z,_,rfl⟩:=b3E.1 hd;exact Ty.cM τ z
    have SR:=h.aR.nd id τ xs aZ;rw[PI,b4n] at SR;obtain⟨XQ,V4⟩:=SR;have gd:∀ k∈f,w'.heap[k]?=w.heap[k]?:=λ k hk=>Dk k λ e=>XQ (e ▸ hk);have AG:∀ k∈fq,k∉b::f:=λ k hk lF=>by
     refine h.iV (o3 k hk) (j:=[id]) ⟨id,by simp, .inl ⟨τ,xs,aZ,by rw[PI];exact lF⟩⟩ λ x1 hx1 y1 X2 e=>?_;simp only[b4e] at X2;exact a9J (by rw[<-X2,<-e];exact hx1)
    obtain⟨g0,g1,g2,rfl,_,m1,m2⟩:=bQ.split (xs.map τ.aP) i (τ.aP (xs.getD i τ.zero)) eF cJ (by simp[List.getD,eL]);have hr:=m2 w' (τ.aP y) (a.eval x).cells.toList fq (λ k hk=>gd k (by simp at hk ⊢;rcases hk with hk|hk<;>simp[hk])) hlen (ka.aS _ λ k hk=>Dk k λ e=>AG k hk (by simp[e]));rw[<-b6x] at hr;refine⟨g0++fq++g2,by rw[b5s];exact hr,?_,λ hk=>?_,λ k hk=>?_⟩
    .rw[b4a,b4a] at V4;obtain⟨⟨n1,n2,n3⟩,n4,n5⟩:=V4;refine ed (ed n1 o2 λ k hk lF=>AG k lF (by simp[hk])) n4 λ k hk lF=>?_;rcases b3y.1 hk with hk|hk
     .exact n5 k (b3y.2 (.inl hk)) k lF rfl
     .exact AG k hk (by simp[lF])
    .rcases b3y.1 hk with hk|hk
     .rcases b3y.1 hk with hk|hk
      .exact XQ (by simp[hk])
      .exact AG b hk (by simp)
     .exact XQ (by simp[hk])
    .rcases b3y.1 hk with hk|hk
     .rcases b3y.1 hk with hk|hk
      .exact .inl (by simp[hk])
      .exact .inr (O7 h (o3 k hk))
     .exact .inl (by simp[hk]))
   exact JD bx k1 k2
 case h_5 T l cc bx =>
  split at hq;case h_2=>cases hq
  case h_1 d τ b e hd hT =>
  split at hq;case h_2=>cases hq
  case h_1 nR =>
  have b2c:d<50:=by
   simp only[Bool.and_eq_true] at nR;simpa [Nat.blt_eq] using nR.2
  split at hq;case h_2=>cases hq
  case h_1 n m hn hm =>
  simp only[b3t,b3w] at hq;obtain⟨rfl,rfl⟩:=hq;have hl:=br h l;have hc:=br h cc;rw[hn] at hl;rw[hm] at hc;obtain⟨hl,_⟩:=hl;obtain⟨hc,_⟩:=hc;simp only[b3F,b3L] at hl hc;obtain⟨v1,v2,v3,v4⟩:=S2 er;obtain⟨h1,_,i,z,h3,h4,h5,h6,h7⟩:=hE.slice hT;have hzo:=a8n (c:=c) (G:=G) (s:=s) (w:=w.alloc (.cells (madeCells z.cells (m.toNat * i.size)) e)) h7;have hzl:=Ow.length _ hzo;rw[Ty.cM,b4A] at hzl;have hr:=run_make (P:=c.P) w T e i z h1 h3 h6 .i64 .i64 n m v1 v2 (by rw[h5];omega) (by omega);have hI:=bu.alloc (Rf h d) (.cells (madeCells z.cells (m.toNat * i.size)) e);have rZ:(s.gone d).ah d=none:=by rw[Fe,b4d rfl]
  obtain⟨r1,r2⟩:=hI.W6 rZ;have eF:bQ (w.alloc (.cells (madeCells z.cells (m.toNat * i.size)) e)) ((List.replicate n.toNat τ.zero).map τ.aP) (madeCells z.cells (m.toNat * i.size)).toList []:=by
   rw[b7w];have hle:n.toNat * z.cells.size<=m.toNat * i.size:=by rw[h4,hzl];exact b5v _ (by omega)
   have:=bQ.more _ ((madeCells z.cells (m.toNat * i.size)).toList.drop (n.toNat * z.cells.size)) (LF hzo n.toNat);rwa [<-Gw _ _ _ hle,b4K] at this
  have XP:iq (w.alloc (.cells (madeCells z.cells (m.toNat * i.size)) e)) (.tuple (.slice (some ⟨w.heap.size,0,none⟩) n.toNat m.toNat::(madeCells z.cells (m.toNat * i.size)).toList).toArray) τ (List.replicate n.toNat τ.zero) [w.heap.size] :=
   ⟨_,_,some ⟨w.heap.size,0,none⟩,m.toNat,rfl,by simp,by simp;omega,by simp only[maxLen];omega,by simp;omega, .inr ⟨w.heap.size,[],e,rfl,rfl,by simpa using heap_alloc_new w (.cells (madeCells z.cells (m.toNat * i.size)) e),by simp[madeCells,h4],eF⟩⟩
  have hN:=hI.W2 d τ (List.replicate n.toNat τ.zero) _ [w.heap.size] rZ r1 r2 (by
   cases hr:c.R d with
   | none=>rfl
   | some v=>exact absurd (h.iO d v hr).1 (Nat.not_le.2 b2c)) XP (by simp) (λ k hk=>by
   simp only[b4e] at hk;subst hk;have hg:=Rf h d;refine⟨.inl h.aS.size,λ hs=>b5R _ (h.dE _ hs),by simp,λ i o cF p7=>?_,λ j kL ng hj nA=>?_⟩
   .exact b5R _ (hg.place i o _ cF p7).2.2
   .exact b5R _ (hg.aR.pl j kL ng _ hj nA).2.2.1)
  unfold Oper.wp;have cG:(execOp a.eval o).run c.P w = .ok (.value (.slice (some ⟨w.heap.size,0,none⟩) n.toNat m.toNat)) (w.alloc (.cells (madeCells z.cells (m.toNat * i.size)) e)):=by
   simp only[execOp,bx,hl,hc,b4c,hr,b3X,b4i]
  rw[cG];have key:=bu.put (d:=some d) (v := .aw d) (x := .slice (some ⟨w.heap.size,0,none⟩) n.toNat m.toNat) hN ⟨by simp[cx],_,by simp;rfl,_,_,_,rfl⟩;have cr:ai.ah { aC:=(s.gone d).aC.set d (.aw d),aK:=(d, .aw τ (List.replicate n.toNat τ.zero))::(s.gone d).aK }=λ i=>if i=d then some (.aw τ (List.replicate n.toNat τ.zero)) else (s.gone d).ah i:=by
   funext i;exact dC _ _ _ _
  have conv:∀ G',bu c G' (jP (s.gone d).aC.length (s.gone d).sl (some d) (.aw d)) (s.gone d).aC.length (λ i=>if i=d then some (.aw τ (List.replicate n.toNat τ.zero)) else (s.gone d).ah i) (a.put (some d) (.slice (some ⟨w.heap.size,0,none⟩) n.toNat m.toNat)) (w.alloc (.cells (madeCells z.cells (m.toNat * i.size)) e))->Inv c G' { aC:=(s.gone d).aC.set d (.aw d),aK:=(d, .aw τ (List.replicate n.toNat τ.zero))::(s.gone d).aK } (a.put o.dst (.slice (some ⟨w.heap.size,0,none⟩) n.toNat m.toNat)) (w.alloc (.cells (madeCells z.cells (m.toNat * i.size)) e)):=by
   intro G' hh;unfold Inv;rw[cr,hd,show ai.sl { aC:=(s.gone d).aC.set d (.aw d),aK:=(d, .aw τ (List.replicate n.toNat τ.zero))::(s.gone d).aK }=jP (s.gone d).aC.length (s.gone d).sl (some d) (.aw d) from qG _ d _ _,
    show ({ aC:=(s.gone d).aC.set d (.aw d),aK:=(d, .aw τ (List.replicate n.toNat τ.zero))::(s.gone d).aK }:ai).aC.length=(s.gone d).aC.length from by simp]
   exact hh
  exact⟨_,conv _ key⟩
 case h_6 cl bx =>
  split at hq;case h_1 gQ =>
   split at hq;case h_2=>cases hq
   case h_1 T id hTs B0 =>
   split at hq;case h_2=>cases hq
   case h_1 t r _ τ xs hT aZ =>
   simp only[b3t,b3w] at hq;obtain⟨rfl,rfl⟩:=hq;have dw:=aT.lC (br h) cl.args.toList;rw[B0] at dw;match kc:cl.args.toList.map a.eval,dw with
   | [x],dw =>
    obtain⟨_,l,eu,ad,m,cap,E5⟩:=dw.1;have hm:m=xs.length/\xs.length<=140737488355328:=by
     obtain⟨v0,l0,a1,Vm,q1,q2,_,_,q5,_⟩:=h.aR.tr id τ xs aZ;rw[eu,E5] at q1;simp only[b5a] at q1;have q1:(Value.slice ad m cap::l)=v0::l0:=congrArg Array.toList q1;simp only[b3F] at q1;rw[q2] at q1;simp only[b5e] at q1;exact⟨q1.1.2.1,q5⟩
    obtain⟨rfl,hmx⟩:=hm;have Pr:cl.argTypes = #[T]:=by rw[<-b4E (xs:=cl.argTypes),hTs]
    have IA:cl.args.map a.eval = #[x]:=by rw[<-b4E (xs:=cl.args.map a.eval),b5y,kc]
    have VY:(execOp a.eval o)=(do let d <-resolve a.eval cl o.type;invoke d.target d.args):=by simp[execOp,bx]
    have SO:(execOp a.eval o).run c.P w=((Builtin.len_ #[T] o.type #[x]).run c.P w).andThen λ v w => .ok (.value v) w:=by
     rw[VY];simp[resolve,gQ,invoke,builtin,Pr,IA]
    obtain⟨k1,_,_⟩:=hE.slice hT;have hel:∃ q,c.P.elem T=q/\c.P.underlying T=some (.slice q):=⟨_,by simp[Program.elem,k1],k1⟩;obtain⟨q,hel,k1⟩:=hel;refine Ei h (x := .int .i64 xs.length) ?_ (Qq ⟨by omega,by omega⟩);rw[SO,E5,run_len_slice w T o.type ad xs.length cap (by rw[hel];exact k1)];rfl
  case h_2 f gQ =>
   split at hq;case h_2=>cases hq
   case h_1 d hd =>
   split at hq;case h_2=>cases hq
   split at hq;case h_1 m hm =>
    have cG:∀ x y:Value,cl.args.toList.map a.eval=[x,y]->jG c.P f->(execOp a.eval o).run c.P w = .ok (.enter f [x,y].toArray) w:=λ x y hxy nF=>by
     rw[<-hxy];exact gR bx gQ rfl nF
    unfold a4E at hq;split at hq;case h_1 id k dw =>
     split at hq;case h_2=>cases hq
     case h_1 τ xs aZ =>
     split at hq;case h_2=>cases hq
     case h_1 x hx =>
     split at hq;case h_2=>cases hq
     case h_1 cR Dm =>
     simp only[b3t,b3w] at hq;obtain⟨rfl,rfl⟩:=hq;obtain⟨v,z,e1,e2,e3⟩:=Uw h dw;obtain⟨Lj,g⟩:=m;have ex:=TV.aW hx;have et:Ty.slice τ=Lj:=congrArg TV.τ ex;subst et;cases ex;have ex':=TV.aW Dm;have hxe:(g xs k).2.1=cR:=by cases ex';rfl
     have:=Uj hE h hm aZ e2 e3 er hd (cG v z e1) (Q:=Q);rw[<-hxe];exact this
    case h_2 id i off sz k dw =>
     split at hq;case h_2=>cases hq
     case h_1 τ xs aZ =>
     split at hq;case h_2=>cases hq
     case h_1 u hu =>
     split at hq;case h_2=>cases hq
     case h_1 x hx hb =>
     split at hq;case h_2=>cases hq
     case h_1 y hy =>
     simp only[Option.some.injEq,Prod.mk.injEq] at hq;obtain⟨rfl,rfl⟩:=hq;simp only[Bool.and_eq_true,Bool.not_eq_true'] at hb;obtain⟨yi,EW,Rh⟩:=hb;have yi:=Nat.eq_of_beq_eq_true yi;subst yi;obtain⟨v,z,e1,e2,e3⟩:=Uw h dw;exact WN hE h hm aZ hu hx EW (by simpa [Nat.blt_eq] using Rh) hy e2 e3 er hd (cG v z e1)
    case h_3 cs k dw =>
     split at hq;case h_2=>cases hq
     case h_1 x ids ht =>
     split at hq;case h_2=>cases hq
     case h_1 hb =>
     simp only[b3t,b3w] at hq;obtain⟨rfl,rfl⟩:=hq;simp only[b3A,b4r] at hb;obtain⟨v,z,e1,e2,e3⟩:=Uw h dw;exact WL hE h hm ht (cW hb.1) hb.2 e2 e3 er hd (cG v z e1)
    case h_4=>cases hq
   case h_2 hm =>
    split at hq;case h_2=>cases hq
    case h_1 Z9 has =>
    split at hq;case h_2=>cases hq
    case h_1 pre res hc =>
    split at hq;case h_2=>cases hq
    case h_1 hb =>
    simp only[Option.some.injEq,Prod.mk.injEq] at hq;obtain⟨rfl,rfl⟩:=hq;simp only[Bool.and_eq_true,List.all_eq_true] at hb;exact Xa hE h has (aT.lC (br h) cl.args.toList) hc er hd (λ p hp=>by simpa using hb.1 p hp) (cW hb.2) (by omega) (λ nF=>gR bx gQ rfl nF)
  case h_3=>cases hq
 case h_7=>cases hq
end
section
variable {w:World}
theorem bQ.join{n:Nat}:∀ (ds:List D) {l:List Value} {fp:List Nat},bQ w ds l fp->(∀ d∈ds,d.size=n) ->
  ds.length * n<=l.length/\∀ (es:List D) (m:List Value) (f2:List Nat),bQ w es m f2->bQ w (ds++es) (l.take (ds.length * n)++m) (fp++f2)
 | [],l,fp,h,_=>by
  have h:fp=[]:=h;subst h;exact⟨by simp,λ es m f2 k=>by simpa using k⟩
 | d::ds,l,fp,h,hn=>by
  obtain⟨c,r,f1,f2,rfl,rfl,h3,h4⟩:=h;have hc:c.length=n:=by rw[Ow.length d h3];exact hn d (by simp)
  obtain⟨k1,k2⟩:=bQ.join ds h4 λ d hd=>hn d (by simp[hd]);have e:(d::ds).length * n=c.length+ds.length * n:=by rw[b3G,b4O,hc];omega
  refine⟨by rw[e,b3J];omega,λ es m f3 k=>?_⟩;refine⟨c,r.take (ds.length * n)++m,f1,f2++f3,?_,by simp,h3,k2 es m f3 k⟩;rw[e,Cl,b4x]
theorem bQ.rdL{n:Nat}:∀ (ds:List D) {l:List Value} {fp:List Nat},bQ w ds l fp->(∀ d∈ds,d.size=n)->dT w (λ _=>True) ds (l.take (ds.length * n))
 | [],l,fp,h,_=>by simp[dT]
 | d::ds,l,fp,h,hn=>by
  obtain⟨c,r,f1,f2,rfl,rfl,h3,h4⟩:=h;have hc:c.length=n:=by rw[Ow.length d h3];exact hn d (by simp)
  have e:(d::ds).length * n=c.length+ds.length * n:=by rw[b3G,b4O,hc];omega
  exact⟨c,r.take (ds.length * n),by rw[e,Cl],Ow.rd d h3 λ _ _=>trivial,bQ.rdL ds h4 λ d hd=>hn d (by simp[hd])⟩
theorem Nx{τ:Ty}(xs:List τ.den):∀ d∈xs.map τ.aP,d.size=τ.size:=by
 intro d hd;obtain⟨z,_,rfl⟩:=b3E.1 hd;exact Ty.cM τ z
theorem SF{g k:Nat}{l:List Value}{t:TypeId}(h:w.heap[g]?=some (.cells l.toArray t (0,0))):∀ j v,(l.take k)[j]?=some v->w.cell? ((⟨g,0,none⟩:Addr).add j)=some v:=by
 intro j v hj;rw[Addr.add_lit];have:=H5 (w:=w) (b:=g) (p:=[]) (c:=l.take k) (r:=l.drop k) (t:=t) (by simpa using h) j v hj;simpa using this
theorem Qv{P:Program}(t ty e:TypeId)(i:TypeInfo)(ht:P.underlying t=some (.slice e))(hi:P.info? e=some i)
  (g Xl a7Q:Nat) (cur:Array Value) (t2:TypeId) (hg:w.heap[g]?=some (.cells cur t2 (0,0)))
  (a:Addr) (m c:Nat) (news:List Value) (hl:news.length=m * i.size) (V3:∀ j u,news[j]?=some u->w.cell? (a.add j)=some u) (h1:∀ u∈news,u.oneCell'=true)
  (E3:Xl+m<=a7Q) (Di:Xl * i.size+news.length<=cur.size) :
  (Builtin.append_ #[t,t] ty #[.slice (some ⟨g,0,none⟩) Xl a7Q, .slice (some a) m c]).run P w =
   .ok (.slice (some ⟨g,0,none⟩) (Xl+m) a7Q) (w.setRow g (cur.toList.take (Xl * i.size)++news++cur.toList.drop (Xl * i.size+news.length)).toArray):=by
 have hf:=run_firstCells_some (P:=P) w i.size m a m c news hl V3;have cw:=run_storeCells_at P g (Xl * i.size) t2 news 0 cur w hg (by simpa using Di) h1;simp only[Nat.add_zero] at cw;simp[Builtin.append_,run_underlying ht,sizeOf,typeInfo,hi,Builtin.lenOf,E3,hf,Addr.add_lit,cw]
theorem YW{τ:Ty}{zs:List τ.den}{q:List Value}{fp:List Nat}{z:Array Value}{cap:Nat}{e:TypeId}(hq:bQ w (zs.map τ.aP) q fp)(hql:q.length=zs.length * τ.size)(Wg:z.size=τ.size)
  (hc:zs.length<=cap) (hm:cap<=maxLen) (h47:zs.length<=140737488355328) (bK:∀ b∈fp,b<w.heap.size) :
  iq (w.drew.alloc (.cells (q.toArray++Builtin.zeroCells z (cap - zs.length)) e)) (.tuple (.slice (some ⟨w.heap.size,0,none⟩) zs.length cap::(q.toArray++Builtin.zeroCells z (cap - zs.length)).toList).toArray) τ zs (w.heap.size::fp):=by
 refine⟨_,_,some ⟨w.heap.size,0,none⟩,cap,rfl,rfl,hc,hm,h47, .inr ⟨w.heap.size,fp,e,rfl,rfl,?_,?_,?_⟩⟩
 .rw[b4E];exact b6C w.drew _
 .simp only[b7t,b3J,hql,b4A,size_zeroCells,Wg];rw[<-b4O];congr 1;omega
 .rw[b7t];have hk:∀ b∈fp,(w.drew.alloc (.cells (q.toArray++Builtin.zeroCells z (cap - zs.length)) e)).heap[b]?=w.heap[b]?:=λ b hb=>heap_alloc_old w.drew _ b (bK b hb);have:=bQ.aS _ hq hk;have more:∀ (ds:List D) {l:List Value} {f:List Nat} (m:List Value),bQ (w.drew.alloc (.cells (q.toArray++Builtin.zeroCells z (cap - zs.length)) e)) ds l f->bQ (w.drew.alloc (.cells (q.toArray++Builtin.zeroCells z (cap - zs.length)) e)) ds (l++m) f:=by
   intro ds;induction ds with
   | nil=>intro l f m h;exact h
   | cons d ds ih =>
    intro l f m h;obtain⟨cc,r,f1,f2,rfl,hf,h3,h4⟩:=h;exact⟨cc,r++m,f1,f2,by simp,hf,h3,ih m h4⟩
  exact more _ _ this
end
section
variable {c:Ctx} {G:Gh} {sl:Nat->AV} {n:Nat} {lk:Nat->Option aA} {a:Act} {w w':World}
theorem ZJ(hE:bE c.P c.E){T:TypeId}{τ:Ty}{b e:Nat}(hT:ah c.E.ty T=some (.slice τ,b,e)){xs ys:List τ.den}{x y:Value}{fx fy:List Nat}
  (hx:Ow w (.slice τ.size (xs.map τ.aP)) [x] fx) (hy:Ow w (.slice τ.size (ys.map τ.aP)) [y] fy) (hlx:∀ k∈fx,k<w.heap.size) (hly:∀ k∈fy,k<w.heap.size) (V5:fx.Nodup) (hny:fy.Nodup) (hd:∀ k∈fx,k∉fy)
  (E3:aY (xs.length+ys.length) b) (ty:TypeId) :
  ∃ v' w' fp l,(Builtin.append_ #[T,T] ty #[x,y]).run c.P w = .ok v' w'/\iq w' (.tuple (v'::l).toArray) τ (xs++ys) fp/\(∃ a n m,v' = .slice a n m)/\fp.Nodup/\(∀ k∈fp,k∈fx\/k∈fy\/(w.heap.size<=k/\k<w'.heap.size))/\bC (λ k=>k∈fx) w w':=by
 obtain⟨k1,⟨b',e',k2⟩,i,zv,k3,k4,k5,k6,k7⟩:=hE.slice hT;have Wg:zv.cells.size=τ.size:=by
  have:=Rd.length _ (QO (w:=w) (S:=λ _=>True) k7);rwa [Ty.cM,b4A] at this
 have PF:=τ.size_pos;have TB:(xs.length+ys.length) * b<=140737488355328/\xs.length+ys.length<=140737488355328:=by
  unfold aY at E3;rw[Nat.mul_add,Nat.mul_one] at E3;omega
 have PD:xs.length+ys.length<=maxLen:=by simp only[maxLen];omega
 obtain⟨lx,hxT,_⟩:=iq.a0w hx;have hx0:=hx;obtain⟨ax,Ln,x1,x2,x3,x4,x5⟩:=hx;obtain⟨ay,a0X,y1,y2,y3,y4,y5⟩:=hy;simp only[b3F,b3L,b3M] at x1 x2 x4 y1 y2 y4;subst x1 y1;have same:(Builtin.append_ #[T,T] ty #[.slice ax xs.length Ln, .slice ay ys.length a0X]).run c.P w = .ok (.slice ax xs.length Ln) w->ys=[]->∃ v' w' fp l,(Builtin.append_ #[T,T] ty #[.slice ax xs.length Ln, .slice ay ys.length a0X]).run c.P w = .ok v' w'/\iq w' (.tuple (v'::l).toArray) τ (xs++ys) fp/\(∃ a n m,v' = .slice a n m)/\fp.Nodup/\(∀ k∈fp,k∈fx\/k∈fy\/(w.heap.size<=k/\k<w'.heap.size))/\bC (λ k=>k∈fx) w w':=by
  intro hr he;subst he;exact⟨_,w,fx,lx,hr,by simpa using hxT,⟨_,_,_,rfl⟩,V5,λ k hk => .inl hk,bC.refl _ _⟩
 rcases y5 with ⟨q1,⟨q2,q3⟩,q4⟩|⟨gy,f2,l2,t2,q1,q2,q3,q4,q5⟩
 .have Ng:ys=[]:=by simpa using q1
  subst Ng;refine same ?_ rfl;subst q2;simp[Builtin.append_,b4v k1,sizeOf,typeInfo,k3,Builtin.lenOf,Builtin.firstCells,x2,storeCells];cases ax<;>rfl
 .subst q1 q2;have hsy:=Nx ys;obtain⟨j1,_⟩:=bQ.join _ q5 hsy;rw[b3M] at j1;have E2:(l2.take (ys.length * τ.size)).length=ys.length * τ.size:=by rw[b3R];omega
  have Ix:∀ u∈l2.take (ys.length * τ.size),u.oneCell'=true:=by
   have:=bQ.rdL _ q5 hsy;rw[b3M] at this;exact dT.mX this
  have V3:=SF (w:=w) (k:=ys.length * τ.size) q3;have a7g:bQ w (ys.map τ.aP) (l2.take (ys.length * τ.size)) f2:=by
   have:=(bQ.join _ q5 hsy).2 [] [] [] rfl;simpa using this
  rcases x5 with ⟨p1,⟨p2,p3⟩,p4⟩|⟨gx,f1,l1,t1,p1,p2,p3,p4,p5⟩
  .have kc:xs=[]:=by simpa using p1
   subst kc p2 p3 p4;by_cases hm:ys=[]
   .refine same ?_ hm;subst hm;simp[Builtin.append_,b4v k1,sizeOf,typeInfo,k3,Builtin.lenOf,Builtin.firstCells,loadCells,loadCellsFrom]
   .have hm0:0<ys.length:=List.length_pos_iff.2 hm;have hr:=run_append_nil (P:=c.P) w T ty e i zv k1 k3 k6 ⟨gy,0,none⟩ ys.length a0X (l2.take (ys.length * τ.size)) (by rw[E2,k4]) V3 hm0 (by omega) (by rw[k5];have:=TB.1;simp only[List.length_nil,Nat.zero_add] at this;omega);have hg:=YW (w:=w) (e:=e) (zs:=ys) (cap:=grownCap w ys.length 0 e) a7g E2 Wg (grownCap_ge w ys.length 0 e) (grownCap_le_maxLen w ys.length 0 e (by simpa using PD)) (by omega) (λ k hk=>hly k (by simp[hk]));refine⟨.slice (some ⟨w.heap.size,0,none⟩) ys.length (grownCap w ys.length 0 e),w.drew.alloc (.cells ((l2.take (ys.length * τ.size)).toArray++Builtin.zeroCells zv.cells (grownCap w ys.length 0 e - ys.length)) e),w.heap.size::f2,_,hr,hg,⟨_,_,_,rfl⟩,?_,?_,⟨rfl,rfl,rfl,by simp,λ k hk _=>heap_alloc_old w.drew _ k hk⟩⟩
    .rw[b4n] at hny ⊢;exact⟨λ hh=>b5R _ (hly _ (by simp[hh])),hny.2⟩
    .intro k hk;rcases b3S.1 hk with rfl|hk
     .exact .inr (.inr ⟨b4h _,by simp⟩)
     .exact .inr (.inl (by simp[hk]))
  .subst p1 p2;have hsx:=Nx xs;obtain⟨i1,i2⟩:=bQ.join _ p5 hsx;rw[b3M] at i1 i2;have uQ:(l1.take (xs.length * τ.size)).length=xs.length * τ.size:=by rw[b3R];omega
   have V4:(f1++f2).Nodup/\gx∉f1++f2:=by
    rw[b4n] at V5 hny;refine⟨b4a.2 ⟨V5.2,hny.2,λ k hk k' lF e=>?_⟩,λ hh=>?_⟩
    .subst e;exact hd k (by simp[hk]) (by simp[lF])
    .rcases b3y.1 hh with hh|hh
     .exact V5.1 hh
     .exact hd gx (by simp) (by simp[hh])
   have eF:=i2 (ys.map τ.aP) _ f2 a7g;rw[<-b5n] at eF;by_cases Di:xs.length+ys.length<=Ln
   .have ka:xs.length * i.size+(l2.take (ys.length * τ.size)).length<=l1.toArray.size:=by
     rw[E2,k4,<-b4O,List.size_toArray,p4];exact b5v _ Di
    have hr:=Qv (P:=c.P) (w:=w) T ty e i k1 k3 gx xs.length Ln l1.toArray t1 p3 ⟨gy,0,none⟩ ys.length a0X (l2.take (ys.length * τ.size)) (by rw[E2,k4]) V3 Ix Di ka;have gd:∀ k,k≠gx->(w.setRow gx (l1.toArray.toList.take (xs.length * i.size)++l2.take (ys.length * τ.size)++l1.toArray.toList.drop (xs.length * i.size+(l2.take (ys.length * τ.size)).length)).toArray).heap[k]?=w.heap[k]?:=λ k hk=>mJ w p3 k hk;refine⟨_,_,gx::(f1++f2),(l1.take (xs.length * τ.size)++l2.take (ys.length * τ.size)++l1.drop (xs.length * τ.size+ys.length * τ.size)),hr,?_,⟨_,_,_,rfl⟩,b4n.2 ⟨V4.2,V4.1⟩,?_,⟨rfl,rfl,rfl,by simp[World.setRow],λ k hk eQ=>gd k λ e=>eQ (by simp[e])⟩⟩
    .refine⟨_,_,some ⟨gx,0,none⟩,Ln,rfl,by simp,by simpa using Di,x3,by simp;omega, .inr ⟨gx,f1++f2,t1,rfl,rfl,?_,?_,?_⟩⟩
     .have:=b7y w gx l1.toArray (l1.toArray.toList.take (xs.length * i.size)++l2.take (ys.length * τ.size)++l1.toArray.toList.drop (xs.length * i.size+(l2.take (ys.length * τ.size)).length)).toArray t1 (0,0) p3;rw[this,E2,k4]
     .simp only[b3J,uQ,E2,b4L,p4];have:xs.length * τ.size+ys.length * τ.size<=Ln * τ.size:=by rw[<-b4O];exact b5v _ Di
      omega
     .have hk:∀ k∈f1++f2,(w.setRow gx (l1.toArray.toList.take (xs.length * i.size)++l2.take (ys.length * τ.size)++l1.toArray.toList.drop (xs.length * i.size+(l2.take (ys.length * τ.size)).length)).toArray).heap[k]?=w.heap[k]?:=λ k hk=>gd k λ e=>V4.2 (e ▸ hk);have h2:=bQ.aS _ eF hk;have more:∀ (w2:World) (ds:List D) {l:List Value} {f:List Nat} (m:List Value),bQ w2 ds l f->bQ w2 ds (l++m) f:=by
       intro w2 ds;induction ds with
       | nil=>intro l f m h;exact h
       | cons d ds ih =>
        intro l f m h;obtain⟨cc,r,f1,f2,rfl,hf,h3,h4⟩:=h;exact⟨cc,r++m,f1,f2,by simp,hf,h3,ih m h4⟩
      exact more _ _ _ h2
    .intro k hk;rcases b3S.1 hk with rfl|hk
     .exact .inl (by simp)
     .rcases b3y.1 hk with hk|hk
      .exact .inl (by simp[hk])
      .exact .inr (.inl (by simp[hk]))
   .have hr:=run_append_grow (P:=c.P) w T ty e i zv k1 k3 k6 ⟨gx,0,none⟩ xs.length Ln (l1.take (xs.length * τ.size)) (by rw[uQ,k4]) (SF p3) ⟨gy,0,none⟩ ys.length a0X (l2.take (ys.length * τ.size)) (by rw[E2,k4]) V3 (by omega) (by omega) (by rw[k5];exact growslice_fits (by omega) TB.1);have hql:(l1.take (xs.length * τ.size)++l2.take (ys.length * τ.size)).length=(xs++ys).length * τ.size:=by rw[b3J,uQ,E2,b3J,b4O]
    have hle:(xs++ys).length=xs.length+ys.length:=b3J;have bK:∀ k∈f1++f2,k<w.heap.size:=λ k hk=>by
     rcases b3y.1 hk with hk|hk
     .exact hlx k (by simp[hk])
     .exact hly k (by simp[hk])
    have hg:=YW (w:=w) (e:=e) (zs:=xs++ys) (cap:=grownCap w (xs.length+ys.length) Ln e) eF hql Wg (by rw[hle];exact grownCap_ge w _ _ e) (grownCap_le_maxLen w _ _ e PD) (by omega) bK;rw[hle] at hg;refine⟨_,w.drew.alloc (.cells ((l1.take (xs.length * τ.size)).toArray++(l2.take (ys.length * τ.size)).toArray++Builtin.zeroCells zv.cells (grownCap w (xs.length+ys.length) Ln e - (xs.length+ys.length))) e),w.heap.size::(f1++f2),_,hr,by simpa [hle] using hg,⟨_,_,_,rfl⟩,?_,?_,⟨rfl,rfl,rfl,by simp,λ k hk _=>heap_alloc_old w.drew _ k hk⟩⟩
    .exact b4n.2 ⟨λ hh=>b5R _ (bK _ hh),V4.1⟩
    .intro k hk;rcases b3S.1 hk with rfl|hk
     .exact .inr (.inr ⟨b4h _,by simp⟩)
     .rcases b3y.1 hk with hk|hk
      .exact .inl (by simp[hk])
      .exact .inr (.inl (by simp[hk]))
end
section
variable {c:Ctx} {G:Gh} {s:ai} {a:Act} {w w':World}
theorem Inv.built(h:Inv c G s a w){ids:List Nat}{d:Nat}{τ:Ty}{zs:List τ.den}{fp:List Nat}{v':Value}{l:List Value}(hk:bC (λ b=>wK G s.ah ids b) w w')(hT:iq w' (.tuple (v'::l).toArray) τ zs fp)
  (hv:∃ a n m,v' = .slice a n m) (cQ:fp.Nodup) (lY:∀ b∈fp,wK G s.ah ids b\/(w.heap.size<=b/\b<w'.heap.size)) (rZ:(ids.foldl ai.gone s).ah (bT d)=none) :
  ∃ G',Inv c G' ((ids.foldl ai.gone s).sV d τ zs) (a.put (some d) v') w':=by
 have h1:Inv c G (ids.foldl ai.gone s) a w:=ye ids h;have hF:∀ b,wK G s.ah ids b->wJ c G (ids.foldl ai.gone s).ah w b:=λ b hb=>O7 h hb;generalize hs1:ids.foldl ai.gone s=s1 at *
 have jq:∀ b,b<w.heap.size->¬ wK G s.ah ids b->w'.heap[b]?=w.heap[b]?:=λ b hb hn=>hk.block b hb hn;have h2:bu c G s1.sl s1.aC.length s1.ah a w':=by
  refine bu.world (S':=G.S) h1 ⟨hk.os,hk.tape,hk.output,hk.size,λ b hb hn=>jq b hb λ hi=>hn (hF b hi).1⟩ (λ _ h=>h) (λ _ _=>b5z) h1.sX (λ b hb=>b3P (h1.dE b hb) hk.size) ?_ ?_ ?_
  .intro b hb;rcases hb with hb|hb
   .exact jq b (h1.dE b hb) λ hi=>(hF b hi).2.1 hb
   .exact jq b (b3P hb.1 h1.aS.size) λ hi=>(hF b hi).1.elim (λ q=>by omega) hb.2.1
  .intro id o b ho hb;exact jq b (h1.place id o b ho hb).2.2 λ hi=>(hF b hi).2.2.2.1 id o ho hb
  .intro id bf cR b ht hb;exact jq b (h1.aR.pl id bf cR b ht hb).2.2.1 λ hi=>(hF b hi).2.2.2.2 id bf cR ht hb
 obtain⟨r1,r2⟩:=h2.W6 rZ;have hR:c.R (bT d)=none:=by
  cases hr:c.R (bT d) with
  | none=>rfl
  | some v=>have:=(h.iO _ v hr).2;unfold bT at this;omega
 have h3:=h2.W2 (bT d) τ zs _ fp rZ r1 r2 hR hT cQ (λ b hb=>by
  rcases lY b hb with hi|⟨q1,q2⟩
  .obtain⟨f1,f2,f3,f4,f5⟩:=hF b hi;exact⟨f1,f2,b3P f3 hk.size,f4,f5⟩
  .refine⟨.inl (b5r h1.aS.size q1),λ hs=>?_,q2,λ i o cF p7=>?_,λ j kL ng hj nA=>?_⟩
   .have:=h1.dE b hs;omega
   .have:=(h1.place i o b cF p7).2.2;omega
   .have:=(h1.aR.pl j kL ng b hj nA).2.2.1;omega)
 have key:=bu.put (d:=some d) (v := .aw (bT d)) (x:=v') h3 ⟨by simp[cx],l,by simp,hv⟩;have cr:(s1.sV d τ zs).ah=λ i=>if i=bT d then some (.aw τ zs) else s1.ah i:=by
  funext i;exact dC _ _ _ _
 have conv:∀ G',bu c G' (jP s1.aC.length s1.sl (some d) (.aw (bT d))) s1.aC.length (λ i=>if i=bT d then some (.aw τ zs) else s1.ah i) (a.put (some d) v') w'->Inv c G' (s1.sV d τ zs) (a.put (some d) v') w':=by
  intro G' hh;unfold Inv;rw[cr,show (s1.sV d τ zs).sl=jP s1.aC.length s1.sl (some d) (.aw (bT d)) from qG _ d _ _,show (s1.sV d τ zs).aC.length=s1.aC.length from by simp[ai.sV]];exact hh
 exact⟨_,conv _ key⟩
theorem Inv.over{s1:ai}{X:Nat->Prop}(h1:Inv c G s1 a w)(hF:∀ b,X b->wJ c G s1.ah w b)(hk:bC X w w'):bu c G s1.sl s1.aC.length s1.ah a w':=by
 have jq:∀ b,b<w.heap.size->¬ X b->w'.heap[b]?=w.heap[b]?:=λ b hb hn=>hk.block b hb hn;refine bu.world (S':=G.S) h1 ⟨hk.os,hk.tape,hk.output,hk.size,λ b hb hn=>jq b hb λ hi=>hn (hF b hi).1⟩ (λ _ h=>h) (λ _ _=>b5z) h1.sX (λ b hb=>b3P (h1.dE b hb) hk.size) ?_ ?_ ?_
 .intro b hb;rcases hb with hb|hb
  .exact jq b (h1.dE b hb) λ hi=>(hF b hi).2.1 hb
  .exact jq b (b3P hb.1 h1.aS.size) λ hi=>(hF b hi).1.elim (λ q=>by omega) hb.2.1
 .intro id o b ho hb;exact jq b (h1.place id o b ho hb).2.2 λ hi=>(hF b hi).2.2.2.1 id o ho hb
 .intro id bf cR b ht hb;exact jq b (h1.aR.pl id bf cR b ht hb).2.2.1 λ hi=>(hF b hi).2.2.2.2 id bf cR ht hb
theorem wJ.a8S{lk:Nat->Option aA}{b:Nat}(h:wJ c G lk w b):¬ SX G lk b:=by
 rintro (hb|⟨id,e,τ,ys,aZ,hb⟩|⟨id,τ,ys,aZ,hb⟩)
 .exact h.2.1 hb
 .exact h.2.2.2.1 id _ aZ hb
 .exact h.2.2.2.2 id τ ys aZ hb
theorem zA(h:Inv c G s a w):∀ {fl:List Bool} {Ts:List TypeId} {vs:List AV} {xs:List Value} {own:List (Option TV)} {ids:List Nat},gM c.E s.ah fl Ts vs=some (own,ids)->ids.Nodup->aT (VR c G s.ah w) vs xs ->
  ∃ BT:List (List Nat),aT (λ (o:Option TV) (q:Value×List Nat)=>match o with
   | some v=>Cr w v q.1 q.2
   | none=>q.2=[]) own (xs.zip BT)/\BT.length=xs.length/\BT.flatten.Nodup/\∀ b∈BT.flatten,wK G s.ah ids b
 | [],[],[],[],own,ids,ht,_,_=>by
  simp only[gM,b3t,b3w] at ht;obtain⟨rfl,rfl⟩:=ht;exact⟨[],ae,rfl,by simp,by simp⟩
 | true::fl,T::Ts,v::vs,x::xs,own,ids,ht,hn,hv=>by
  simp only[gM] at ht;split at ht;case h_2=>cases ht
  case h_1 τ q hT =>
  split at ht;case h_2=>cases ht
  case h_1 y i hy =>
  split at ht;case h_2=>cases ht
  case h_1 r j hr =>
  simp only[b3t,b3w] at ht;obtain⟨rfl,rfl⟩:=ht;rw[b4a] at hn;obtain⟨n1,n2,n3⟩:=hn;obtain⟨f1,o1,o2,o3⟩:=mj h hy hv.1 n1;obtain⟨BT,p1,p2,p3,p4⟩:=zA h hr n2 hv.2;refine⟨f1::BT,⟨o1,p1⟩,by simp[p2],?_,?_⟩
  .rw[List.flatten_cons];exact ed o2 p3 λ b hb cz=>h.iV (o3 b hb) (p4 b cz) (λ x hx y hy=>n3 x hx y hy)
  .intro b hb;rw[List.flatten_cons] at hb;rcases b3y.1 hb with hb|hb
   .exact (o3 b hb).mono λ i hi=>by simp[hi]
   .exact (p4 b hb).mono λ i hi=>by simp[hi]
 | false::fl,T::Ts,v::vs,x::xs,own,ids,ht,hn,hv=>by
  simp only[gM] at ht;split at ht;case h_2=>cases ht
  case h_1 r j hr =>
  simp only[Option.some.injEq,Prod.mk.injEq] at ht;obtain⟨rfl,rfl⟩:=ht;obtain⟨BT,p1,p2,p3,p4⟩:=zA h hr hn hv.2;exact⟨[]::BT,⟨rfl,p1⟩,by simp[p2],by simpa using p3,by simpa using p4⟩
 | [],_::_,_,_,_,_,ht,_,_=>by simp[gM] at ht
 | [],[],_::_,_,_,_,ht,_,_=>by simp[gM] at ht
 | [],[],[],_::_,_,_,_,_,hv=>hv.elim
 | true::_,[],_,_,_,_,ht,_,_=>by simp[gM] at ht
 | false::_,[],_,_,_,_,ht,_,_=>by simp[gM] at ht
 | true::_,_::_,[],_,_,_,ht,_,_=>by simp[gM] at ht
 | false::_,_::_,[],_,_,_,ht,_,_=>by simp[gM] at ht
 | _,_,_::_,[],_,_,_,_,hv=>hv.elim
theorem uZ(hE:bE c.P c.E)(h:Inv c G s a w):∀ {own:List (Option TV)} {Ts:List TypeId} {vs:List AV} {xs:List Value} {BT:List (List Nat)} {Z9:List Arg},fC c.E s.ah own Ts vs=some Z9 ->
  aT (λ (o:Option TV) (q:Value×List Nat)=>match o with
   | some v=>Cr w v q.1 q.2
   | none=>q.2=[]) own (xs.zip BT)->BT.length=xs.length->aT (VR c G s.ah w) vs xs->tX c.P w (SX G s.ah) Z9 xs BT.flatten/\∀ a∈Z9,a.NW=true
 | [],[],[],[],BT,Z9,hm,hO,hl,hv=>by
  simp only[fC,Option.some.injEq] at hm;subst hm;have:BT=[]:=List.eq_nil_of_length_eq_zero (by simpa using hl);subst this;exact⟨rfl,by simp⟩
 | some y::own,T::Ts,v::vs,x::xs,f::BT,Z9,hm,hO,hl,hv=>by
  simp only[fC] at hm;split at hm;case h_2=>cases hm
  case h_1 r hr =>
  simp only[Option.some.injEq] at hm;subst hm;obtain⟨q1,q2⟩:=uZ hE h hr hO.2 (by simpa using hl) hv.2;refine⟨⟨f,BT.flatten,by simp,hO.1,q1⟩,λ a ha=>?_⟩;rcases List.mem_cons.1 ha with rfl|ha
  .rfl
  .exact q2 a ha
 | none::own,T::Ts,v::vs,x::xs,f::BT,Z9,hm,hO,hl,hv=>by
  simp only[fC] at hm;split at hm;case h_2=>cases hm
  case h_1 y hy =>
  split at hm;case h_2=>cases hm
  case h_1 r SU hr =>
  simp only[Option.some.injEq] at hm;subst hm;obtain⟨q1,q2⟩:=uZ hE h hr hO.2 (by simpa using hl) hv.2;have hf:f=[]:=hO.1;subst hf;have h1:=iu hE h (λ _ _ h=>h) (λ _ h => .inl h) (λ τ v x y h1 h2=>Ag h.aR h.aK (λ _ _ h=>h) h1 h2) (Ts:=[T]) (vs:=[v]) (Z9:=[y]) (xs:=[x]) (by simp only[mq,hy]) ⟨hv.1,ae⟩;refine⟨⟨[],BT.flatten,by simp,?_,q1⟩,λ a ha=>?_⟩
  .have h1:=h1.1;cases y with
   | own v=>exact h1.elim
   | box k=>exact h1.elim
   | _=>exact⟨rfl,h1⟩
  .rcases b3S.1 ha with rfl|ha
   .exact SU
   .exact q2 a ha
 | [],[],[],_::_,_,_,_,_,_,hv=>hv.elim
 | _,_,_::_,[],_,_,_,_,_,hv=>hv.elim
 | [],_::_,_,_,_,_,hm,_,_,_=>by simp[fC] at hm
 | [],[],_::_,_,_,_,hm,_,_,_=>by simp[fC] at hm
 | some _::_,[],_,_,_,_,hm,_,_,_=>by simp[fC] at hm
 | none::_,[],_,_,_,_,hm,_,_,_=>by simp[fC] at hm
 | some _::_,_::_,[],_,_,_,hm,_,_,_=>by simp[fC] at hm
 | none::_,_::_,[],_,_,_,hm,_,_,_=>by simp[fC] at hm
 | _::_,_::_,_::_,_::_,[],_,_,_,hl,_=>by simp at hl
theorem Xx{lk:Nat->Option aA}{τ:Ty}:∀ {ps:List (Nat×AV)} {n:Nat} {xs:List τ.den} {ids:List Nat},JG lk τ n ps=some (xs,ids)->xs.length=ps.length
 | [],n,xs,ids,h=>by
  simp only[JG,b3t,b3w] at h;obtain⟨rfl,_⟩:=h;rfl
 | (i,v)::ps,n,xs,ids,h=>by
  simp only[JG] at h;split at h
  .split at h
   .split at h
    .rename_i q;simp only[b3t,b3w] at h;obtain⟨rfl,_⟩:=h;simp[Xx q]
    .cases h
   .cases h
  .cases h
theorem Tc(h:Inv c G s a w){τ:Ty}{place:Nat->Option (Nat×Nat)}(hp:∀ i,place i=some (i * τ.size,τ.size)) :
  ∀ {ps:List (Nat×AV)} {vs:List (Nat×Value)} {n:Nat} {xs:List τ.den} {ids:List Nat} {l:List Value},JG s.ah τ n ps=some (xs,ids)->aT (λ p q=>p.1=q.1/\VR c G s.ah w p.2 q.2) ps vs->ids.Nodup ->
   (n+ps.length) * τ.size=l.length->∃ r fp,Instr.fill place l.toArray vs=some (l.take (n * τ.size)++r).toArray/\bQ w (xs.map τ.aP) r fp/\r.length=xs.length * τ.size/\fp.Nodup/\∀ b∈fp,wK G s.ah ids b
 | [],[],n,xs,ids,l,h1,_,_,hl=>by
  simp only[JG,b3t,b3w] at h1;obtain⟨rfl,rfl⟩:=h1;refine⟨[],[],?_,rfl,by simp,b4I,by simp⟩;simp only[b3T,b5s] at hl;rw[hl,b5N,b4N];rfl
 | (i,v)::ps,(j,x)::vs,n,xs,ids,l,h1,hv,cQ,hl=>by
  obtain⟨⟨Dj,hx⟩,Wa⟩:=hv;have Dj:i=j:=Dj;subst Dj;simp only[JG] at h1;split at h1
  .rename_i eL;have eL:=b3x eL;subst eL;split at h1
   .rename_i y i1 hy;split at h1
    .rename_i ys js Ng;simp only[b3t,b3w] at h1;obtain⟨rfl,rfl⟩:=h1;rw[b4a] at cQ;obtain⟨n1,n2,n3⟩:=cQ;obtain⟨f1,o1,o2,o3⟩:=mj h hy hx n1;have hr:=Cr.cells o1;have cJ:x.cells.size=τ.size:=by
      have:=Ow.length _ hr;rw[Ty.cM] at this;simpa using this
     simp only[b3G] at hl;have PF:=τ.size_pos;have e1:(i+(ps.length+1)) * τ.size=i * τ.size+τ.size+ps.length * τ.size:=by
      rw[b4O,b4O];omega
     rw[Rb place i _ _ x vs l (hp i) cJ (by omega)];obtain⟨r,f2,q1,q2,q3,q4,q5⟩:=Tc h hp (l:=l.take (i * τ.size)++x.cells.toList++l.drop (i * τ.size+τ.size)) Ng Wa n2 (by
      simp[cJ];rw[show (i+1+ps.length) * τ.size=i * τ.size+τ.size+ps.length * τ.size by rw[b4O,b4O];omega];omega)
     refine⟨x.cells.toList++r,f1++f2,?_,⟨_,_,f1,f2,rfl,rfl,hr,q2⟩,?_,?_,?_⟩
     .rw[q1];congr 2;rw[show (i+1) * τ.size=i * τ.size+τ.size by rw[b4O];omega];have ht:(l.take (i * τ.size)++x.cells.toList).length=i * τ.size+τ.size:=by simp[cJ];omega
      rw[<-ht,b5G,b4x]
     .simp only[b3J,b3G,b4A,cJ,q3,b4O];omega
     .exact ed o2 q4 λ b hb cz=>h.iV (o3 b hb) (q5 b cz) (λ x hx y hy=>n3 x hx y hy)
     .intro b hb;rcases b3y.1 hb with hb|hb
      .exact (o3 b hb).mono λ i hi=>by simp[hi]
      .exact (q5 b hb).mono λ i hi=>by simp[hi]
    .cases h1
   .cases h1
  .cases h1
 | [],_::_,_,_,_,_,_,hv,_,_=>hv.elim
 | _::_,[],_,_,_,_,_,hv,_,_=>hv.elim
theorem bC.a7y{X Y:Nat->Prop}{w w':World}(h:bC X w w')(hXY:∀ b,X b->Y b):bC Y w w':=⟨h.os,h.tape,h.output,h.size,λ b hb hn=>h.block b hb λ hx=>hn (hXY b hx)⟩
theorem a0i(h:Inv c G s a w){ids:List Nat}{b:Nat}(hb:wK G s.ah ids b):b<w.heap.size:=(O7 h hb).2.2.1
theorem a2r{lk:Nat->Option aA}{τ:Ty}{v:AV}{r:τ.den×List Nat}(h:dY lk τ v=some r):v.cell=true\/∃ s x,v = .aF ⟨.st s,x⟩:=by
 cases v with
 | aF u =>
  obtain⟨bf,x⟩:=u;cases bf with
  | st s=>exact .inr ⟨s,x,rfl⟩
  | _=>exact .inl rfl
 | nil=>exact .inl rfl
 | aw id=>exact .inl rfl
 | row id=>exact .inl rfl
 | _=>simp[dY] at h
theorem a8b(h:Inv c G s a w){τ:Ty}{v:AV}{x:Value}{xs:List τ.den}{ids:List Nat}(ht:dY s.ah (.slice τ) v=some (xs,ids))(hv:VR c G s.ah w v x):∃ fp,Ow w (.slice τ.size (xs.map τ.aP)) [x] fp/\fp.Nodup/\∀ b∈fp,wK G s.ah ids b:=by
 rcases a2r ht with hc|⟨st,y,rfl⟩
 .exact By h ht (hv.Zy hc)
 .simp[dY,Ty.wI] at ht
theorem jK:∀ {us:List TV} {cs:List Value} {fp:List Nat},cT w (us.map TV.aP) cs fp->Cu us->cT w ((us.map a2Y).map TV.aP) cs fp
 | [],_,_,h,_=>h
 | ⟨τ,x⟩::us,cs,fp,h,hf=>by
  obtain⟨v,r,f1,f2,rfl,rfl,h3,h4⟩:=h;cases τ with
  | mv t =>
   have hf:Option.isSome (α:=List t.den) x=true/\Cu us:=hf;refine⟨v,r,f1,f2,rfl,rfl,?_,jK h4 hf.2⟩;match x,hf.1,h3 with
   | some l,_,h3=>exact h3
  | ptr=>exact⟨v,r,f1,f2,rfl,rfl,h3,jK h4 hf⟩
  | int k=>exact⟨v,r,f1,f2,rfl,rfl,h3,jK h4 hf⟩
  | bool=>exact⟨v,r,f1,f2,rfl,rfl,h3,jK h4 hf⟩
  | str=>exact⟨v,r,f1,f2,rfl,rfl,h3,jK h4 hf⟩
  | slice t=>exact⟨v,r,f1,f2,rfl,rfl,h3,jK h4 hf⟩
  | st q=>exact⟨v,r,f1,f2,rfl,rfl,h3,jK h4 hf⟩
theorem OY:∀ {us:List TV} {cs:List Value} {fp:List Nat},cT w (us.map TV.aP) cs fp->(∀ u∈us,u.τ.UH=true)->cT w ((us.map ZW).map TV.aP) cs []
 | [],_,_,h,_=>⟨h.1,rfl⟩
 | ⟨τ,x⟩::us,cs,fp,h,hf=>by
  obtain⟨v,r,f1,f2,rfl,rfl,h3,h4⟩:=h;have hr:=OY h4 λ u hu=>hf u (by simp[hu]);have sc:τ.wI=true->Ow w (τ.aP x) [v] []:=λ hs=>Ow.ep (S:=λ _=>True) _ (tT hs x) (Ow.rd _ h3 λ _ _=>trivial);have hm:τ.UH=true:=hf ⟨τ,x⟩ (by simp);cases τ with
  | mv t =>
   refine⟨v,r,[],[],rfl,rfl,?_,hr⟩;match x,h3 with
   | some l,h3=>obtain⟨a',cap,k1,_⟩:=h3;exact⟨⟨_,_,_,k1⟩,rfl⟩
   | none,h3=>exact⟨h3.1,rfl⟩
  | int k=>exact⟨v,r,[],[],rfl,rfl,sc rfl,hr⟩
  | bool=>exact⟨v,r,[],[],rfl,rfl,sc rfl,hr⟩
  | str=>exact⟨v,r,[],[],rfl,rfl,sc rfl,hr⟩
  | slice t=>cases hm
  | ptr=>exact⟨v,r,[],[],rfl,rfl,sc rfl,hr⟩
  | st q=>cases hm
theorem a5Q(l:List Value)(k n:Nat):l.take k++(l.drop k).take n++l.drop (k+n)=l:=by
 rw[b4x,<-b5j,b4K,b4K]
theorem Inv.b0O(h:Inv c G s a w){id i:Nat}{p q:aQ}{xs:List (Ty.den (.st p))}{y:p.den}{z:q.den}(aZ:s.ah id=some (.aw (.st p) xs))
  (hy:p.fS ((p.cells (xs.getD i (Ty.zero (.st p)))).map ZW)=some y) (hz:q.fS ((p.cells (xs.getD i (Ty.zero (.st p)))).map a2Y)=some z) (E4:p.s7.all Ty.UH=true)
  (b0B:Cu (p.cells (xs.getD i (Ty.zero (.st p))))) {a0:Option Addr} {n cap:Nat} {l:List Value} (eu:G.η id = .tuple (.slice a0 n cap::l).toArray) (hi:i<n) :
  ∃ G' f1 b,a0=some ⟨b,0,none⟩/\cd w b (i * p.size) ((l.drop (i * p.size)).take p.size)/\((l.drop (i * p.size)).take p.size).length=p.size/\Inv c G' (s.bW.dF id (.st p) (xs.set i y)) a w /\
   Ow w (q.aP z) ((l.drop (i * p.size)).take p.size) f1/\f1.Nodup/\Fr c G' (s.bW.dF id (.st p) (xs.set i y)).ah w f1:=by
 have hT:=h.aR.tr id _ xs aZ;obtain⟨hn,b,f,t,e1,PI,hh,eF⟩:=xi hT eu hi;have Wf:i<xs.length:=by omega
 have FY:l.length=cap * p.size/\xs.length<=cap/\cap<=maxLen/\xs.length<=140737488355328:=by
  obtain⟨v0,l0,a1,Vm,k1,k2,k3,k4,k5,k6⟩:=hT;rw[eu] at k1;simp only[b5a] at k1;have k1:(Value.slice a0 n cap::l)=v0::l0:=congrArg Array.toList k1;simp only[b3F] at k1;obtain⟨k7,rfl⟩:=k1;rw[k2] at k7;simp only[b5e] at k7;obtain⟨_,_,rfl⟩:=k7;rcases k6 with ⟨rfl,_,_⟩|⟨_,_,_,_,_,_,k8,_⟩
  .simp at Wf
  .exact⟨k8,k3,k4,k5⟩
 have cJ:∀ d∈xs.map (Ty.aP (.st p)),d.size=p.size:=Nx (τ := .st p) xs;obtain⟨f0,f1,f2,hf,m0,m1,m2⟩:=bQ.split (xs.map (Ty.aP (.st p))) i (Ty.aP (.st p) (xs.getD i (Ty.zero (.st p)))) eF cJ (by simp[List.getD,Wf]);have wh:((l.drop (i * p.size)).take p.size).length=p.size:=by rw[b3R,b4L];omega
 have m1:Ow w (.agg ((p.cells (xs.getD i (Ty.zero (.st p)))).map TV.aP)) ((l.drop (i * p.size)).take p.size) f1:=by
  have:=m1;rwa [show Ty.aP (.st p) (xs.getD i (Ty.zero (.st p)))=p.aP (xs.getD i (Ty.zero (.st p))) from rfl,aQ.ct] at this
 have hz':Ow w (q.aP z) ((l.drop (i * p.size)).take p.size) f1:=by
  rw[aQ.ct,aQ.nV hz];exact jK m1 b0B
 have hy':Ow w (p.aP y) ((l.drop (i * p.size)).take p.size) []:=by
  rw[aQ.ct,aQ.nV hy];refine OY m1 λ u hu=>?_;have:u.τ∈p.s7:=by rw[<-aQ.oo p (xs.getD i (Ty.zero (.st p)))];exact b3E.2 ⟨u,hu,rfl⟩
  exact b4r.1 E4 _ this
 have hr:=m2 w (p.aP y) _ [] (λ _ _=>rfl) wh hy';rw[a5Q,b4N] at hr;have cQ:=h.aR.nd id _ xs aZ;rw[PI,b4n,hf] at cQ;obtain⟨Pv,cQ⟩:=cQ;have b3r:=cQ;rw[b4a,b4a] at cQ;obtain⟨⟨d0,d1,d01⟩,d2,a9w⟩:=cQ;have XP:iq w (G.η id) (.st p) (xs.set i y) (b::(f0++f2)):=by
  refine⟨_,l,a0,cap,eu,by rw[hn,b4Y],by rw[b4Y];exact FY.2.1,FY.2.2.1,by rw[b4Y];exact FY.2.2.2, .inr ⟨b,f0++f2,t,e1,rfl,hh,FY.1,?_⟩⟩;rw[b6x];exact hr
 have th:∀ k∈b::(f0++f2),k∈G.φ id:=λ k hk=>by
  rw[PI,hf];simp only[b3S,b3y] at hk ⊢;rcases hk with hk|hk|hk<;>simp[hk]
 have a6Y:(b::(f0++f2)).Nodup:=by
  refine b4n.2 ⟨λ hk=>Pv ?_,ed d0 d2 λ x hx Dm=>a9w x (by simp[hx]) x Dm rfl⟩;simp only[b3y] at hk ⊢;rcases hk with hk|hk<;>simp[hk]
 have hf1:∀ k∈f1,k∈G.φ id/\k∉b::(f0++f2):=λ k hk=>by
  refine⟨by rw[PI,hf];simp[hk],λ hm=>?_⟩;simp only[b3S,b3y] at hm;rcases hm with rfl|hm|hm
  .exact Pv (by simp[hk])
  .exact d01 k hm k hk rfl
  .exact a9w k (by simp[hk]) k hm rfl
 obtain⟨g1,g2,g3⟩:=h.bW;have Y1:s.bW.ah id=some (.aw (.st p) xs):=by rw[kj];simp[aZ,aA.de]
 let A:List (Nat×TE):=[(id,(G.η id,b::(f0++f2), .aw (.st p) (xs.set i y)))];have T:=Lk.ofList (c:=c) (G:=G) (lk:=s.bW.ah) (w:=w) (w':=w) (A:=A) (λ e he=>by
  simp only[A,b4e] at he;subst he;exact⟨_,xs,_,_,l,l,Y1,rfl,eu,eu,XP,a6Y⟩) (λ e he k hk=>by
  simp only[A,b4e] at he;subst he;exact .inl ⟨_,b4e.2 rfl,th k hk⟩) (λ e he e' Dh _ _ _=>by
  simp only[A,b4e] at he Dh;rw[he,Dh]) (by simp[A]) (λ _ _ _=>rfl) rfl rfl rfl (b4h _)
 have hI:=bu.fe g1 T g2 g3;have cr:(s.bW.dF id (.st p) (xs.set i y)).ah=Ut A s.bW.ah:=by
  funext j;rw[fH,QE]
 refine⟨⟨G.S,JJ A G,Bz A G⟩,f1,b,e1,?_,wh,?_,hz',d1,?_⟩
 .have:=(cd.of_heap hh).part (i * p.size) p.size;rwa [b5b] at this
 .unfold Inv;rw[cr];exact hI
 .intro k hk;obtain⟨k1,k2⟩:=hf1 k hk;obtain⟨q1,q2,q3,q4⟩:=g1.aR.pl id _ xs k Y1 k1;refine⟨q1,q2,q3,λ j o hj nA=>?_,λ j τ ys hj nA=>?_⟩
  .have nA:eb (JJ A G j)=some k:=nA;rw[fH] at hj;by_cases uP:j=id
   .subst uP;have:JJ A G j=G.η j:=by simp[JJ,A,ah]
    rw[this,eu] at nA;cases nA
   .rw[b3H uP] at hj;have:JJ A G j=G.η j:=by
     have eQ:Nat.beq id j=false:=by
      cases hb:Nat.beq id j with
      | false=>rfl
      | true=>exact absurd (b3x hb).symm uP
     simp[JJ,A,ah,eQ]
    rw[this] at nA;exact q4 j o hj nA
  .have nA:k∈Bz A G j:=nA;rw[fH] at hj;by_cases uP:j=id
   .subst uP;have:Bz A G j=b::(f0++f2):=by simp[Bz,A,ah]
    rw[this] at nA;exact k2 nA
   .rw[b3H uP] at hj;have:Bz A G j=G.φ j:=by
     have eQ:Nat.beq id j=false:=by
      cases hb:Nat.beq id j with
      | false=>rfl
      | true=>exact absurd (b3x hb).symm uP
     simp[Bz,A,ah,eQ]
    rw[this] at nA;exact uP (g1.aR.ap j id _ _ _ _ k hj Y1 nA k1)
theorem a2K(hE:bE c.P c.E)(h:Inv c G s a w){o:Oper}{vc:Vc}{s':ai}(hq:ZQ c.E s o=some (vc,s'))(er:vc.ok){Q:Exit->Act->World->Prop} :
  o.wp c.P a w (λ a' w'=>∃ G',Inv c G' s' a' w') Q:=by
 unfold ZQ at hq;split at hq;case h_2=>cases hq
 case h_1 d hd =>
 split at hq;case h_2=>cases hq
 case h_1 nR =>
 split at hq;case h_4=>cases hq
 case h_1 T len parts bx =>
  split at hq;case h_2=>cases hq
  case h_1 τ p hT =>
  obtain⟨b,e⟩:=p;split at hq;case h_2=>cases hq
  case h_1 hlen =>
  split at hq;case h_2=>cases hq
  case h_1 xs ids kc =>
  split at hq;case h_2=>cases hq
  case h_1 hb rZ =>
  simp only[b3t,b3w] at hq;obtain⟨rfl,rfl⟩:=hq;simp only[b3A] at hlen;have hl1:=b3x hlen.1;have hl2:=b4B hlen.2;subst hl1;obtain⟨h1,⟨b',e',h2⟩,i,z,h3,h4,h5,h6,h7⟩:=hE.slice hT;have PF:=τ.size_pos;have PD:τ.size<=100:=Ty.size_le τ;have Pw:parts.size * τ.size<=16777216:=b5r (b6D hl2 PD) (by decide);obtain⟨r,fp,h8,h9,h10,h11,h12⟩:=Tc (place:=λ i=>some (i * τ.size,τ.size)) h (λ _=>rfl) (l:=((Array.range (parts.size * τ.size)).map (λ j=>((if parts.size * τ.size=0 then #[] else z.cells:Array Value)[j % (if parts.size * τ.size=0 then #[] else z.cells:Array Value).size]!))).toList) kc (aT.J2 (br h) _) (cW hb) (by simp);have uQ:=Xx kc;simp only[b3M,b4A] at uQ;rw[uQ] at h10;simp only[b6v,b4z,b3Y,b4E] at h8;have cG:(execOp a.eval o).run c.P w = .ok (.value (.slice (some ⟨w.heap.size,0,none⟩) parts.size parts.size)) (w.alloc (.cells r.toArray e)):=by
   have e2:(parts.map λ (i,x)=>(i,a.eval x)).toList=parts.toList.map λ p=>(p.1,a.eval p.2):=by simp
   have gm:¬ (parts.size * τ.size>2 ^ 24):=by omega
   simp only[execOp,bx,Instr.buildSlice,b4c,b4v h1,b3X,hE.sizeOf h2,b3H gm,b4i];by_cases h0:parts.size * τ.size=0
   .simp only[h0,b5u,b4c,b4i,b3X,e2] at h8 ⊢;rw[h8];simp[newRow]
   .simp only[h0,b6c,b4c,zeroValue,typeInfo,run_program,b3X,h3,h6,b4i,e2] at h8 ⊢;rw[h8];simp[newRow]
  unfold Oper.wp;rw[cG];show ∃ G',Inv c G' _ (a.put o.dst _) _;rw[hd];have bK:∀ k∈fp,k<w.heap.size:=λ k hk=>a0i h (h12 k hk);have eF:bQ (w.alloc (.cells r.toArray e)) (xs.map τ.aP) r fp:=bQ.aS _ h9 λ k hk=>heap_alloc_old w _ k (bK k hk);refine Inv.built h (zs:=xs) (fp:=w.heap.size::fp) (l:=r) ((gv w _).a7y λ _ k=>k.elim) ⟨_,_,some ⟨w.heap.size,0,none⟩,parts.size,rfl,by rw[uQ],by rw[uQ];omega,by simp only[maxLen];omega,by rw[uQ];omega, .inr ⟨w.heap.size,fp,e,rfl,rfl,heap_alloc_new w _,h10,eF⟩⟩ ⟨_,_,_,rfl⟩ (List.nodup_cons.2 ⟨λ hh=>Nat.lt_irrefl _ (bK _ hh),h11⟩) (λ k hk=>?_) rZ;rcases List.mem_cons.1 hk with rfl|hk
  .exact .inr ⟨b4h _,by simp⟩
  .exact .inl (h12 k hk)
 case h_2 T ad bx =>
  split at hq;case h_2=>cases hq
  case h_1 q r id i sz hT hx =>
  split at hq;case h_2=>cases hq
  case h_1 p xs aZ =>
  split at hq;case h_2=>cases hq
  case h_1 y z hb hy hz =>
  split at hq;case h_2=>cases hq
  case h_1 KS =>
  simp only[b3t,b3w] at hq;obtain⟨rfl,rfl⟩:=hq;simp only[b3A] at hb KS;have cJ:=b3x hb.1;subst cJ;have hp:=br h ad;rw[hx] at hp;obtain⟨_,b,n,cap,l,eu,hi,hp⟩:=hp;obtain⟨G1,f1,b',e1,nB,hlen,hI,hO,cQ,hF⟩:=h.b0O aZ hy hz hb.2 er eu hi;simp only[b3t,b5i,b3L] at e1;subst e1;have hqs:q.size=p.size:=by
   have e:=Ow.length _ hO;rw[show (q.aP z).size=q.size from Ty.cM (.st q) z] at e;omega
  have cG:(execOp a.eval o).run c.P w = .ok (.value (.agg ((l.drop (i * p.size)).take p.size).toArray)) w:=by
   simp only[execOp,bx,hp,b5s,b4c,jM hE hT nB (by rw[hlen];exact hqs.symm),b3X,b4i];rfl
  unfold Oper.wp;rw[cG];show ∃ G',Inv c G' _ (a.put o.dst _) _;rw[hd];have uN:∀ e∈bZ (bT d) (TV.cells ⟨.st q,z⟩),(s.bW.dF id (.st p) (xs.set i y)).ah e.1=none:=λ e he=>by
   have h0:(s.ah e.1).isNone=true:=b4r.1 KS.1 e he;have eQ:e.1≠id:=λ hh=>by rw[hh,aZ] at h0;cases h0
   rw[fH,b3H eQ,kj];show Option.map aA.de (s.ah e.1)=none;cases hl:s.ah e.1 with
   | none=>rfl
   | some o=>rw[hl] at h0;cases h0
  obtain⟨G2,lk',k1,k2,k3,k4,_⟩:=bu.Uu (v:=⟨.st q,z⟩) (id:=bT d) hI ⟨_,rfl,hO⟩ cQ hF uN (cW KS.2) (λ j hj=>by
   cases hr:c.R j with
   | none=>rfl
   | some v=>have:=h.iO j v hr;unfold bT at hj;omega)
  refine⟨G2,?_⟩;have cr:ai.ah { aC:=s.bW.aC.set d (eZ (bT d) ⟨.st q,z⟩),aK:=bZ (bT d) (q.cells z)++(s.bW.dF id (.st p) (xs.set i y)).aK }=lk':=by
   funext j;rw[k1 j];exact pq _ _ j
  unfold Inv;rw[cr,show ai.sl { aC:=s.bW.aC.set d (eZ (bT d) ⟨.st q,z⟩),aK:=bZ (bT d) (q.cells z)++(s.bW.dF id (.st p) (xs.set i y)).aK }=jP s.bW.aC.length s.bW.sl (some d) (eZ (bT d) ⟨.st q,z⟩) from qG s.bW.aC d _ _,
   show ({ aC:=s.bW.aC.set d (eZ (bT d) ⟨.st q,z⟩),aK:=bZ (bT d) (q.cells z)++(s.bW.dF id (.st p) (xs.set i y)).aK }:ai).aC.length=s.bW.aC.length from by simp]
  exact bu.put k2 k4.fT
 case h_3 cl bx =>
  split at hq;case h_3=>cases hq
  case h_2 f gQ =>
   split at hq;case h_1=>cases hq
   case h_2 fl _ _ =>
   split at hq;case h_2=>cases hq
   case h_1 own ids ht =>
   split at hq;case h_2=>cases hq
   case h_1 Z9 hb has =>
   split at hq;case h_2=>cases hq
   case h_1 pre res hc =>
   split at hq;case h_2=>cases hq
   case h_1 KS =>
   simp only[Option.some.injEq,Prod.mk.injEq] at hq;obtain⟨rfl,rfl⟩:=hq;simp only[Bool.and_eq_true,List.all_eq_true] at KS;have uN:∀ p∈bw (bT d) res,(ids.foldl ai.gone s).ah p.1=none:=λ p hp=>by simpa using KS.1 p hp
   have qT:=cW KS.2;obtain⟨nF,ig⟩:=hE.Qh f Z9 pre res hc er;obtain⟨BT,t1,t2,t3,t4⟩:=zA h ht (cW hb) (aT.lC (br h) _);have h1:Inv c G (ids.foldl ai.gone s) a w:=ye ids h;have hF:∀ b,b∈BT.flatten->wJ c G (ids.foldl ai.gone s).ah w b:=λ b hb=>O7 h (t4 b hb);obtain⟨m1,m2⟩:=uZ hE h1 has t1 t2 (aT.lC (br h1) _);generalize hs1:ids.foldl ai.gone s=s1 at *
   unfold Oper.wp;rw[gR bx gQ rfl nF];simp only[Oper.upon];refine (ig w (SX G s1.ah) _ BT.flatten ?_ m1 (.inr m2) t3 (λ b hb=>⟨(hF b hb).2.2.1,(hF b hb).a8S⟩)).mono ?_
   .exact h1.a2p
   .rintro e w' ⟨x,fp,rfl,hk,hO,cQ,lY⟩;have hI:=Inv.over h1 hF hk;obtain⟨ys,pB,TD⟩:=NL (c:=c) (id:=bT d) hO;have hFr:Fr c G s1.ah w' fp:=λ b hb=>by
     rcases lY b hb with hi|⟨q1,q2⟩
     .obtain⟨f1,f2,f3,f4,f5⟩:=hF b hi;exact⟨f1,f2,b3P f3 hk.size,f4,f5⟩
     .refine⟨.inl (b5r h1.aS.size q1),λ hs=>?_,q2,λ i o' hi p7=>?_,λ j τ zs hj nA=>?_⟩
      .have:=h1.dE b hs;omega
      .have:=(h1.place i o' b hi p7).2.2;omega
      .have:=(h1.aR.pl j τ zs b hj nA).2.2.1;omega
    obtain⟨G',lk',k1,k2,k3,k4,_⟩:=hI.Oh (id:=bT d) pB cQ hFr uN qT (λ j hj=>by
     cases hr:c.R j with
     | none=>rfl
     | some v=>have:=h.iO j v hr;unfold bT at hj;omega)
    refine⟨G',?_⟩;have cr:ai.ah { aC:=s1.aC.set d (kr (bT d) res),aK:=bw (bT d) res++s1.aK }=lk':=by
     funext i;rw[k1 i];exact pq _ _ i
    unfold Inv;rw[cr,hd,show ai.sl { aC:=s1.aC.set d (kr (bT d) res),aK:=bw (bT d) res++s1.aK }=jP s1.aC.length s1.sl (some d) (kr (bT d) res) from qG s1.aC d _ _,
     show ({ aC:=s1.aC.set d (kr (bT d) res),aK:=bw (bT d) res++s1.aK }:ai).aC.length=s1.aC.length from by simp]
    exact bu.put k2 (TD G' lk' k4)
  case h_1 gQ =>
  split at hq;case h_2=>cases hq
  case h_1 T T' hTs =>
  split at hq;case h_2=>cases hq
  case h_1 τ b e VT hT =>
  have VT:=b3x VT;subst VT;split at hq;case h_2=>cases hq
  case h_1 x y dw =>
  split at hq;case h_2=>cases hq
  case h_1 xs i ys j hx hy =>
  split at hq;case h_2=>cases hq
  case h_1 hb rZ =>
  simp only[b3t,b3w] at hq;obtain⟨rfl,rfl⟩:=hq;obtain⟨v,z,e1,e2,e3⟩:=Uw h dw;have hb:=cW hb;rw[b4a] at hb;obtain⟨n1,n2,n3⟩:=hb;obtain⟨fx,o1,o2,o3⟩:=a8b h hx e2;obtain⟨fy,p1,p2,p3⟩:=a8b h hy e3;obtain⟨v',w',fp,l,k1,k2,k3,k4,k5,k6⟩:=ZJ (c:=c) (w:=w) hE hT o1 p1 (λ k hk=>a0i h (o3 k hk)) (λ k hk=>a0i h (p3 k hk)) o2 p2
   (λ k hk lF=>h.iV (o3 k hk) (p3 k lF) λ x hx y hy=>n3 x hx y hy) er o.type
  have Pr:cl.argTypes = #[T,T]:=by rw[<-b4E (xs:=cl.argTypes),hTs]
  have IA:cl.args.map a.eval = #[v,z]:=by rw[<-b4E (xs:=cl.args.map a.eval),b5y,e1]
  have VY:(execOp a.eval o)=(do let d <-resolve a.eval cl o.type;invoke d.target d.args):=by simp[execOp,bx]
  have SO:(execOp a.eval o).run c.P w=((Builtin.append_ #[T,T] o.type #[v,z]).run c.P w).andThen λ v w => .ok (.value v) w:=by
   rw[VY];simp[resolve,gQ,invoke,builtin,Pr,IA]
  unfold Oper.wp;rw[SO,k1];show ∃ G',Inv c G' _ (a.put o.dst _) _;rw[hd];refine Inv.built h (zs:=xs++ys) (fp:=fp) (l:=l) (k6.a7y λ k hk=>(o3 k hk).mono λ i hi=>by simp[hi]) k2 k3 k4 (λ k hk=>?_) rZ;rcases k5 k hk with hk|hk|hk
  .exact .inl ((o3 k hk).mono λ i hi=>by simp[hi])
  .exact .inl ((p3 k hk).mono λ i hi=>by simp[hi])
  .exact .inr hk
end
def b0X:Value->Nat
 | .pointer (some a)=>a.block
 | _=>0
def kP(G:Gh)(m:List (Nat×Nat))(k:Nat):Nat:=match ah m k with
 | some id=>b0X (G.η id)
 | none=>0
def k9(m m':List (Nat×Nat)):Prop:=∀ k id,ah m k=some id->ah m' k=some id
theorem k9.refl(m:List (Nat×Nat)):k9 m m:=λ _ _ h=>h
theorem k9.trans{a b c:List (Nat×Nat)}(h:k9 a b)(k:k9 b c):k9 a c:=λ i id q=>k i id (h i id q)
theorem pr{α:Type}(k:Nat)(o:α)(l:List (Nat×α))(j:Nat):ah ((k,o)::l) j=if j=k then some o else ah l j:=by
 have e:ah ((k,o)::l) j=match Nat.beq k j with
  | true=>some o
  | false=>ah l j:=rfl
 rw[e];cases hb:Nat.beq k j with
 | true=>rw[b4d (b3x hb).symm]
 | false=>rw[b3H (λ e=>by subst e;rw[Nat.beq_refl] at hb;cases hb)]
theorem Vz{m:List (Nat×Nat)}{k id:Nat}(h:ah m k=none):k9 m ((k,id)::m):=λ i j q=>by
 rw[pr];by_cases hi:i=k
 .subst hi;rw[h] at q;cases q
 .rw[b3H hi];exact q
theorem WJ{m:List (Nat×Nat)}{k id:Nat}:ah ((k,id)::m) k=some id:=by rw[pr,b4d rfl]
section
variable {c:Ctx} {G:Gh} {s:ai} {a:Act} {w w':World}
theorem a6r{lk:Nat->Option aA}{τ:Ty}{v:AV}{x:Value}{y:τ.den}(h:jH (λ _=>none) τ v=some y)(hv:C1 c G lk w v x):Rd w G.S (τ.aP y) [x]:=Ux h hv
theorem oj{sl:Nat->AV}{n:Nat}{lk:Nat->Option aA}(h:bu c G sl n lk a w):∀ {ks:List CK} {cs:List AV} {m m':List (Nat×Nat)} {ds:List TV} {ids:List Nat} {l:List Value},dd lk ks cs m=some (ds,ids,m')->ids.Nodup->aT (C1 c G lk w) cs l ->
  k9 m m'/\∃ fp,(∀ mf,k9 m' mf->ja w G.S (kP G mf) ks ds l fp)/\fp.Nodup/\∀ b∈fp,wK G lk ids b
 | [],[],m,m',ds,ids,l,ht,_,hv=>by
  simp only[dd,b3t,b3w] at ht;obtain⟨rfl,rfl,rfl⟩:=ht;match l,hv with
  | [],_=>exact⟨k9.refl _,[],λ _ _=>rfl,b4I,by simp⟩
 | .d τ::ks,v::cs,m,m',ds,ids,l,ht,hn,hv=>by
  simp only[dd] at ht;split at ht;case h_2=>cases ht
  case h_1 y hy p6 =>
  split at ht;case h_2=>cases ht
  case h_1 ds1 a1C m1 hr =>
  simp only[b3t,b3w] at ht;obtain⟨rfl,rfl,rfl⟩:=ht;match l,hv with
  | x::l,hv =>
   obtain⟨e1,fp,e2,e3,e4⟩:=oj h hr hn hv.2;exact⟨e1,fp,λ mf hm=>⟨⟨rfl,p6,a6r hy hv.1⟩,e2 mf hm⟩,e3,e4⟩
 | .o τ::ks,v::cs,m,m',ds,ids,l,ht,hn,hv=>by
  simp only[dd] at ht;split at ht;case h_2=>cases ht
  case h_1 y i hy p6 =>
  split at ht;case h_2=>cases ht
  case h_1 ds1 a1C m1 hr =>
  simp only[b3t,b3w] at ht;obtain⟨rfl,rfl,rfl⟩:=ht;rw[b4a] at hn;obtain⟨n1,n2,n3⟩:=hn;match l,hv with
  | x::l,hv =>
   obtain⟨e1,fp,e2,e3,e4⟩:=oj h hr n2 hv.2;obtain⟨f1,o1,o2,o3⟩:=By h hy hv.1;refine⟨e1,f1++fp,λ mf hm=>⟨f1,fp,rfl,⟨rfl,p6,o1⟩,e2 mf hm⟩,ed o2 e3 λ b hb cz=>h.iV (o3 b hb) (e4 b cz) λ x hx y hy=>n3 x hx y hy,λ b hb=>?_⟩;rcases b3y.1 hb with hb|hb
   .exact (o3 b hb).mono λ k hk=>by simp[hk]
   .exact (e4 b hb).mono λ k hk=>by simp[hk]
 | .p j::ks,v::cs,m,m',ds,ids,l,ht,hn,hv=>by
  simp only[dd] at ht;split at ht;case h_2=>cases ht
  case h_1 id =>
  match l,hv with
  | x::l,hv =>
   have key:∀ m1,dd lk ks cs m1=some (ds,ids,m')->k9 m m1->ah m1 j=some id->k9 m m'/\∃ fp,(∀ mf,k9 m' mf->ja w G.S (kP G mf) (.p j::ks) ds (x::l) fp)/\fp.Nodup/\∀ b∈fp,wK G lk ids b:=λ m1 hr hx hj=>by
    obtain⟨e1,fp,e2,e3,e4⟩:=oj h hr hn hv.2;refine⟨hx.trans e1,fp,λ mf hm=>?_,e3,e4⟩;have hv1:C1 c G lk w (.ptr id 0) x:=hv.1;obtain⟨b,h1,h2,_⟩:=hv1;have:kP G mf j=b:=by
     simp only[kP,hm j id (e1 j id hj),h1];rfl
    cases ds with
    | nil=>exact⟨by rw[this];exact h2,e2 mf hm⟩
    | cons d ds=>exact⟨by rw[this];exact h2,e2 mf hm⟩
   split at ht
   .rename_i i hi;split at ht
    .rename_i hb;have hb:=b3x hb;subst hb;exact key m ht (k9.refl _) hi
    .cases ht
   .rename_i gm;exact key _ ht (Vz gm) WJ
 | [],_::_,_,_,_,_,_,ht,_,_=>by simp[dd] at ht
 | .d _::_,[],_,_,_,_,_,ht,_,_=>by simp[dd] at ht
 | .o _::_,[],_,_,_,_,_,ht,_,_=>by simp[dd] at ht
 | .p _::_,[],_,_,_,_,_,ht,_,_=>by simp[dd] at ht
def b0d(lk:Nat->Option aA)(m:List (Nat×Nat))(k0 n:Nat):Prop:=∀ k,k0<=k->k<k0+n->∃ id cs,ah m k=some id/\lk id=some (.box cs)
theorem vK{sl:Nat->AV}{n:Nat}{lk:Nat->Option aA}(h:bu c G sl n lk a w):∀ {sh:List (List CK)} {k:Nat} {m m':List (Nat×Nat)} {bM:List (List TV)} {ids:List Nat},iZ lk sh k m=some (bM,ids,m')->ids.Nodup ->
  k9 m m'/\b0d lk m' k sh.length/\∃ fp,(∀ mf,k9 m' mf->fE w G.S (kP G mf) k sh bM fp)/\fp.Nodup/\∀ b∈fp,wK G lk ids b
 | [],k,m,m',bM,ids,ht,_=>by
  simp only[iZ,b3t,b3w] at ht;obtain⟨rfl,rfl,rfl⟩:=ht;exact⟨k9.refl _,λ j h1 h2=>by simp at h2;omega,[],λ _ _=>rfl,b4I,by simp⟩
 | ks::sh,k,m,m',bM,ids,ht,hn=>by
  simp only[iZ] at ht;split at ht;case h_2=>cases ht
  case h_1 id aZ =>
  split at ht;case h_2=>cases ht
  case h_1 cs ka =>
  split at ht;case h_2=>cases ht
  case h_1 ds i m1 hr =>
  split at ht;case h_2=>cases ht
  case h_1 b1M a1C m2 hr2 =>
  simp only[b3t,b3w] at ht;obtain⟨rfl,rfl,rfl⟩:=ht;rw[b4a] at hn;obtain⟨n1,n2,n3⟩:=hn;obtain⟨b,l,t,q1,q2,q3⟩:=h.aK id _ ka;obtain⟨e1,f1,e2,e3,e4⟩:=oj h hr n1 q3;obtain⟨g1,g0,f2,g2,g3,g4⟩:=vK h hr2 n2;refine⟨e1.trans g1,λ j h1 h2=>?_,f1++f2,λ mf hm=>⟨l,t,f1,f2,rfl,?_,e2 mf (g1.trans hm),g2 mf hm⟩,ed e3 g3 λ b hb cz=>h.iV (e4 b hb) (g4 b cz) λ x hx y hy=>n3 x hx y hy,λ b hb=>?_⟩
  .by_cases hj:j=k
   .subst hj;exact⟨id,cs,(e1.trans g1) j id aZ,ka⟩
   .exact g0 j (by omega) (by simp at h2;omega)
  .have:kP G mf k=b:=by
    simp only[kP,hm k id ((e1.trans g1) k id aZ),q1];rfl
   rw[this];exact q2
  .rcases b3y.1 hb with hb|hb
   .exact (e4 b hb).mono λ k hk=>by simp[hk]
   .exact (g4 b hb).mono λ k hk=>by simp[hk]
theorem xA:∀ {fl:List (Option Nat)} {vs:List AV} {m m':List (Nat×Nat)},ji fl vs m=some m'->k9 m m'/\∀ (i k:Nat),fl[i]?=some (some k)->∃ id,vs[i]?=some (AV.ptr id 0)/\ah m' k=some id
 | [],[],m,m',h=>by
  simp only[ji,b3t] at h;subst h;exact⟨k9.refl _,λ i k q=>by simp at q⟩
 | none::fl,v::vs,m,m',h=>by
  obtain⟨h1,h2⟩:=xA (fl:=fl) (vs:=vs) h;refine⟨h1,λ i k q=>?_⟩;cases i with
  | zero=>simp at q
  | succ i=>exact h2 i k (by simpa using q)
 | some k::fl,v::vs,m,m',h=>by
  simp only[ji] at h;split at h;case h_2=>cases h
  case h_1 id =>
  have key:∀ m1,k9 m m1->ah m1 k=some id->ji fl vs m1=some m'->k9 m m'/\∀ (i k':Nat),(some k::fl)[i]?=some (some k')->∃ dx,(AV.ptr id 0::vs)[i]?=some (AV.ptr dx 0)/\ah m' k'=some dx:=λ m1 e1 e2 e3=>by
   obtain⟨h1,h2⟩:=xA e3;refine⟨e1.trans h1,λ i k' q=>?_⟩;cases i with
   | zero =>
    simp only[b7c,b3t] at q;subst q;exact⟨id,rfl,h1 k id e2⟩
   | succ i=>exact h2 i k' (by simpa using q)
  split at h
  .rename_i i hi;split at h
   .rename_i hb;have hb:=b3x hb;subst hb;exact key m (k9.refl _) hi h
   .cases h
  .rename_i gm;exact key _ (Vz gm) WJ h
 | [],_::_,_,_,h=>by simp[ji] at h
 | some _::_,[],_,_,h=>by simp[ji] at h
 | none::_,[],_,_,h=>by simp[ji] at h
theorem Zh{lk:Nat->Option aA}{ids:List Nat}{id:Nat}{o:aA}(h:a3F lk ids id=some o):lk id=some o/\id∉ids/\∃ cs,o = .box cs:=by
 unfold a3F at h;split at h
 .cases h
 .rename_i hc;split at h
  .rename_i cs ka;simp only[Option.some.injEq] at h;subst h;exact⟨ka,by simpa using hc,cs,rfl⟩
  .cases h
theorem a5q{S S':Nat->Prop}{τ:Ty}{y:τ.den}{x:Value}(hf:(match CK.d τ with | .d (.slice _)=>false | .d (.mv _)=>false|_=>true)=true)(ha:τ.agg=false)(h:Rd w S (τ.aP y) [x]):Rd w S' (τ.aP y) [x]:=by
 cases τ with
 | slice t=>cases hf
 | mv t=>cases hf
 | st s=>cases ha
 | _=>exact h
theorem ja.flat{S S':Nat->Prop}{B:Nat->Nat}:∀ {ks:List CK} {ds:List TV} {l:List Value} {fp:List Nat},(ks.all λ k=>match k with | .d (.slice _)=>false | .d (.mv _)=>false|_=>true)=true->ja w S B ks ds l fp->ja w S' B ks ds l fp:=by
 intro ks;induction ks with
 | nil=>intro ds l fp _ h;cases ds<;>cases l<;>exact h
 | cons k0 ks ih =>
  intro ds l fp hf h;rw[List.all_cons,b3A] at hf;cases l with
  | nil=>cases k0<;>cases ds<;>cases h
  | cons x l =>
   cases k0 with
   | d τ =>
    cases ds with
    | nil=>cases h
    | cons v ds =>
     obtain⟨⟨e,h1,h2⟩,h3⟩:=h;refine⟨⟨e,h1,?_⟩,ih hf.2 h3⟩;obtain⟨bf,y⟩:=v;simp only at e;subst e;exact a5q hf.1 h1 h2
   | o τ =>
    cases ds with
    | nil=>cases h
    | cons v ds =>
     obtain⟨f1,f2,e,h1,h2⟩:=h;exact⟨f1,f2,e,h1,ih hf.2 h2⟩
   | p j =>
    have h:x = .pointer (some ⟨B j,0,none⟩)/\ja w S B ks ds l fp:=by cases ds<;>exact h
    have r:=ih hf.2 h.2;cases ds<;>exact⟨h.1,r⟩
theorem fE.flat{S S':Nat->Prop}{B:Nat->Nat}:∀ {sh:List (List CK)} {k:Nat} {bM:List (List TV)} {fa:List Nat},O4 sh=true->fE w S B k sh bM fa->fE w S' B k sh bM fa
 | [],k,bM,fa,_,h=>by cases bM<;>exact h
 | ks::sh,k,[],fa,_,h=>h.elim
 | ks::sh,k,ds::bM,fa,hf,h=>by
  obtain⟨l,t,f1,f2,e,h1,h2,h3⟩:=h;unfold O4 at hf;rw[List.all_cons,Bool.and_eq_true] at hf;exact⟨l,t,f1,f2,e,h1,h2.flat hf.1,fE.flat hf.2 h3⟩
theorem Oc.more{P:Program}{f:FuncId}{sh:List (List CK)}{args:List Arg}{bM:List (List TV)}{res:List TV}{dJ:List (List TV)}(h:Oc P f sh args bM res dJ)(XV:O4 sh=true){S T:Nat->Prop}{B:Nat->Nat}{cA:List Value}{fa:List Nat}(hT:ua w T)(hST:∀ b,S b->T b)
  (hX:∀ b,BX sh.length B fa b->¬ T b) (VQ:fE w S B 0 sh bM fa) (SP:fa.Nodup) (E1:∀ b∈fa,b<w.heap.size/\¬ S b/\∀ k,k<sh.length->B k≠b) (hB:∀ k,k<sh.length->B k<w.heap.size/\¬ S (B k))
  (FZ:∀ j k,j<sh.length->k<sh.length->B j=B k->j=k) (ha:aT (Yr P w T (BX sh.length B fa) B) args cA):ZE P f sh res dJ w S B cA fa:=by
 refine (h w T B cA fa hT (VQ.flat XV) SP (λ b hb=>⟨(E1 b hb).1,hX b (.inl hb),(E1 b hb).2.2⟩) (λ k hk=>⟨(hB k hk).1,hX _ (.inr ⟨k,hk,rfl⟩)⟩) FZ ha).mono ?_;rintro e w' ⟨x,S',fp,KB,rfl,hk,hS1,hS2,hS3,hO,hB',cQ,lY,hBS⟩;refine⟨x,λ b=>S' b/\(T b->S b),fp,KB,rfl,hk,λ b hb=>⟨hS1 b (hST b hb),λ _=>hb⟩,λ b hb=>hS2 b hb.1,λ b hb hx=>?_,hO,hB'.flat XV,cQ,λ b hb=>⟨(lY b hb).1,λ q=>(lY b hb).2.1 q.1,(lY b hb).2.2⟩,λ k hk q=>hBS k hk q.1⟩;have:=hS3 b hb hx;exact⟨λ q=>q.2 (this.1 q.1),λ q=>⟨this.2 (hST b q),λ _=>q⟩⟩
theorem Qx{sh:List (List CK)}{lk:Nat->Option aA}{ids:List Nat}{id:Nat}{o:aA}(h:sLk sh lk ids id=some o):lk id=some o/\id∉ids:=by
 unfold sLk at h;split at h
 .split at h
  .cases h
  .rename_i hc;exact⟨h,by simpa using hc⟩
 .obtain⟨h1,h2,_⟩:=Zh h;exact⟨h1,h2⟩
theorem Xh(h1:Inv c G s a w){S1 X:Nat->Prop}{lk':Nat->Option aA}(cr:∀ id o,lk' id=some o->s.ah id=some o)(hH:∀ (τ:Ty) v x (y:τ.den),zI lk' τ v=some y->VR c G s.ah w v x->dZ w S1 ⟨τ,y⟩ x)
  (wg:∀ b,X b->¬ St c G.S b) (lX:∀ id o b,lk' id=some o->eb (G.η id)=some b->¬ X b) {τ:Ty} {v:AV} {x:Value} {y:τ.den} (hy:deref lk' τ v=some y) (hx:VR c G s.ah w v x) :
  ∃ b o cs,x = .pointer (some ⟨b,o,none⟩)/\b<w.heap.size/\¬ X b/\cd w b o cs/\Rd w S1 (τ.aP y) cs:=by
 obtain⟨b,o,cs,k1,k2,k3,k4⟩:=H9 (S:=S1) h1 cr hH hy hx;refine⟨b,o,cs,k1,k2,?_,k3,k4⟩;unfold deref at hy;split at hy;case h_2=>cases hy
 case h_1 u hu =>
 cases v with
 | cZ z =>
  obtain⟨b',o',dB,q1,q2,_⟩:=hx;rw[k1] at q1;simp only[b5O,b3t,b5i] at q1;obtain⟨rfl,_⟩:=q1;exact λ hb=>wg _ hb q2
 | ptr id off =>
  obtain⟨b',q1,q2,_⟩:=hx;rw[k1] at q2;simp only[b5O,b3t,b5i] at q2;obtain⟨rfl,_⟩:=q2;simp only[sN] at hu;split at hu
  .rename_i cs2 ka;exact lX id _ _ ka (by rw[q1];rfl)
  .cases hu
 | eG id i off =>
  obtain⟨b',n',SE,e',bf,cR,q1,q2,q3,q4⟩:=hx;rw[k1] at q4;simp only[b5O,b3t,b5i] at q4;obtain⟨rfl,_⟩:=q4;simp only[sN] at hu;split at hu
  .rename_i hr;exact lX id _ _ hr (by rw[q1];rfl)
  .cases hu
 | _=>simp[sN] at hu
theorem H4(h1:Inv c G s a w){S1 X:Nat->Prop}{lk':Nat->Option aA}(cr:∀ id o,lk' id=some o->s.ah id=some o)(hH:∀ (τ:Ty) v x (y:τ.den),zI lk' τ v=some y->VR c G s.ah w v x->dZ w S1 ⟨τ,y⟩ x)
  (wg:∀ b,X b->¬ St c G.S b) (lX:∀ id o b,lk' id=some o->eb (G.η id)=some b->¬ X b):∀ {ks:List (Bool×Ty)} {vs:List AV} {Z9:List Arg} {xs:List Value},pN lk' ks vs=some Z9->aT (CR c G s.ah w) vs xs->aT (a9i w S1 X) Z9 xs
 | [],[],Z9,xs,h,hv=>by
  simp only[pN,b3t] at h;subst h;match xs,hv with
  | [],_=>trivial
 | (true,τ)::ks,v::vs,Z9,xs,h,hv=>by
  simp only[pN] at h;split at h
  .rename_i y hy;split at h
   .rename_i r hr;simp only[b3t] at h;subst h;match xs,hv with
    | x::xs,hv=>exact⟨Xh h1 cr hH wg lX hy hv.1.fT,H4 h1 cr hH wg lX hr hv.2⟩
   .cases h
  .cases h
 | (false,τ)::ks,v::vs,Z9,xs,h,hv=>by
  simp only[pN] at h;split at h
  .rename_i y hy;split at h
   .rename_i r hr;simp only[b3t] at h;subst h;match xs,hv with
    | x::xs,hv=>exact⟨hH _ _ _ _ hy hv.1.fT,H4 h1 cr hH wg lX hr hv.2⟩
   .cases h
  .cases h
 | [],_::_,_,_,h,_=>by cases h
 | (true,_)::_,[],_,_,h,_=>by cases h
 | (false,_)::_,[],_,_,h,_=>by cases h
theorem a2N(hE:bE c.P c.E)(h1:Inv c G s a w){S1 X:Nat->Prop}(Tu:∀ b,G.S b->S1 b){lk':Nat->Option aA}(cr:∀ id o,lk' id=some o->s.ah id=some o)(hH:∀ (τ:Ty) v x (y:τ.den),zI lk' τ v=some y->VR c G s.ah w v x->dZ w S1 ⟨τ,y⟩ x)
  (wg:∀ b,X b->¬ St c G.S b) (lX:∀ id o b,lk' id=some o->eb (G.η id)=some b->¬ X b) {g:AV} {x:Value} {q:FV} {B:Nat->Nat} (h:EJ c.E lk' g=some q) (hx:VR c G s.ah w g x):Yr c.P w S1 X B (.c9 q) x:=by
 unfold EJ at h;split at h
 .rename_i f cs;split at h
  .rename_i k _;split at h
   .rename_i Z9 has;simp only[b3t] at h;subst h;obtain⟨l,k1,k2⟩:=hx;exact⟨f,Z9,l,k1,xG hE _ _ _,H4 h1 cr hH wg lX has k2⟩
   .cases h
  .cases h
 .simp only[b3t] at h;subst h;obtain⟨f,eO,l,k1,k2,k3⟩:=hx;refine⟨f,eO,l,k1,k2,k3.imp λ u y _ hy=>?_⟩;cases u with
  | val v=>exact dZ.mono (G:=G) (G':=⟨S1,G.η,G.φ⟩) hy Tu (λ _ _=>rfl)
  | ref v =>
   obtain⟨b,o,cs,k1,k2,k3,k4⟩:=hy;refine⟨b,o,cs,k1,?_,λ hb=>wg b hb k2,k3,Rd.aS Tu (λ _ _=>rfl) _ k4⟩;exact k2.elim (h1.dE b) λ k=>b3P k.1 h1.aS.size
  | fn f=>exact hy
  | _=>exact hy.elim
 .rename_i f;split at h
  .rename_i k _;split at h
   .simp only[b3t] at h;subst h;exact⟨f,[],[],hx,xG hE _ _ _,ae⟩
   .cases h
  .cases h
 .cases h
theorem Bx(hE:bE c.P c.E)(h1:Inv c G s a w){mf:List (Nat×Nat)}{S1 X:Nat->Prop}(Tu:∀ b,G.S b->S1 b){lk':Nat->Option aA}(cr:∀ id o,lk' id=some o->s.ah id=some o)
  (hH:∀ (τ:Ty) v x (y:τ.den),zI lk' τ v=some y->VR c G s.ah w v x->dZ w S1 ⟨τ,y⟩ x) (wg:∀ b,X b->¬ St c G.S b) (lX:∀ id o b,lk' id=some o->eb (G.η id)=some b->¬ X b) {lk0:Nat->Option aA} :
  ∀ {fl:List (Option Nat)} {Ts:List TypeId} {vs vs0:List AV} {xs:List Value} {Z9:List Arg},sB c.E lk' fl Ts vs=some Z9->aT (VR c G s.ah w) vs xs->aT (VR c G lk0 w) vs0 xs ->
   (∀ (i k:Nat),fl[i]?=some (some k)->∃ id,vs0[i]?=some (AV.ptr id 0)/\ah mf k=some id)->aT (Yr c.P w S1 X (kP G mf)) Z9 xs
 | [],[],[],vs0,xs,Z9,h,hv,_,_=>by
  simp only[sB,b3t] at h;subst h;match xs,hv with
  | [],_=>trivial
 | some k::fl,T::Ts,v::vs,vs0,xs,Z9,h,hv,PH,hb=>by
  simp only[sB] at h;split at h;case h_2=>cases h
  case h_1 r hr =>
  simp only[b3t] at h;subst h;match xs,vs0,hv,PH with
  | x::xs,v0::vs0,hv,PH =>
   obtain⟨id,q1,q2⟩:=hb 0 k rfl;simp only[List.getElem?_cons_zero,Option.some.injEq] at q1;subst q1;have hp:VR c G lk0 w (.ptr id 0) x:=PH.1;obtain⟨b,k1,k2,_⟩:=hp;refine⟨?_,Bx hE h1 Tu cr hH wg lX hr hv.2 PH.2 λ i k' q=>by simpa using hb (i+1) k' (by simpa using q)⟩;show x = .pointer (some ⟨kP G mf k,0,none⟩);simp only[kP,q2,k1];exact k2
  | x::xs,[],_,PH=>exact PH.elim
 | none::fl,T::Ts,v::vs,vs0,xs,Z9,h,hv,PH,hb=>by
  simp only[sB] at h;split at h;case h_2=>cases h
  case h_1 z hz =>
  split at h;case h_2=>cases h
  case h_1 r hr =>
  simp only[b3t] at h;subst h;match xs,vs0,hv,PH with
  | x::xs,v0::vs0,hv,PH =>
   refine⟨?_,Bx hE h1 Tu cr hH wg lX hr hv.2 PH.2 λ i k' q=>by simpa using hb (i+1) k' (by simpa using q)⟩;unfold U6 at hz;split at hz
   .rename_i τ q hT;split at hz
    .rename_i y hy;simp only[b3t] at hz;subst hz;exact hH _ _ _ _ hy hv.1
    .cases hz
   .split at hz
    .rename_i τ hT;split at hz
     .rename_i y hy;simp only[b3t] at hz;subst hz;exact Xh h1 cr hH wg lX hy hv.1
     .cases hz
    .split at hz
     .rename_i q hq;simp only[b3t] at hz;subst hz;exact a2N hE h1 Tu cr hH wg lX hq hv.1
     .split at hz
      .rename_i f;simp only[b3t] at hz;subst hz;exact hv.1
      .cases hz
  | x::xs,[],_,PH=>exact PH.elim
 | [],_::_,_,_,_,_,h,_,_,_=>by simp[sB] at h
 | [],[],_::_,_,_,_,h,_,_,_=>by simp[sB] at h
 | some _::_,[],_,_,_,_,h,_,_,_=>by simp[sB] at h
 | none::_,[],_,_,_,_,h,_,_,_=>by simp[sB] at h
 | some _::_,_::_,[],_,_,_,h,_,_,_=>by simp[sB] at h
 | none::_,_::_,[],_,_,_,h,_,_,_=>by simp[sB] at h
def dD:List CK->List TV->List TV
 | .d _::ks,_::ds=>dD ks ds
 | .o _::ks,v::ds=>v::dD ks ds
 | .p _::ks,ds=>dD ks ds
 | _,_=>[]
def kY:List CK->List Value->List Value
 | .o _::ks,x::xs=>x::kY ks xs
 | _::ks,_::xs=>kY ks xs
 | _,_=>[]
theorem ja.wH{S:Nat->Prop}{B:Nat->Nat}:∀ {ks:List CK} {ds:List TV} {l:List Value} {fp:List Nat},ja w S B ks ds l fp->cT w ((dD ks ds).map TV.aP) (kY ks l) fp/\(∀ u∈dD ks ds,u.τ.agg=false)/\(dD ks ds).length=(kY ks l).length
 | [],[],[],fp,h=>⟨⟨rfl,h⟩,by simp[dD],rfl⟩
 | .d τ::ks,v::ds,x::xs,fp,h=>by
  obtain⟨_,h2⟩:=h;obtain⟨k1,k2,k3⟩:=ja.wH h2;exact⟨k1,k2,k3⟩
 | .o τ::ks,v::ds,x::xs,fp,h=>by
  obtain⟨f1,f2,rfl,⟨e,h1,h2⟩,h3⟩:=h;obtain⟨k1,k2,k3⟩:=ja.wH h3;refine⟨⟨x,kY ks xs,f1,f2,rfl,rfl,h2,k1⟩,λ u hu=>?_,by simp[dD,kY,k3]⟩;rcases b3S.1 hu with rfl|hu
  .rw[e];exact h1
  .exact k2 u hu
 | .p j::ks,ds,x::xs,fp,h=>by
  have h:x = .pointer (some ⟨B j,0,none⟩)/\ja w S B ks ds xs fp:=by cases ds<;>exact h
  obtain⟨k1,k2,k3⟩:=ja.wH h.2;refine⟨?_,?_,?_⟩<;>cases ds<;>first|exact k1|exact k2|exact k3
 | [],_::_,_,_,h=>h.elim
 | [],[],_::_,_,h=>h.elim
 | .d _::_,[],_,_,h=>by cases h
 | .o _::_,[],_,_,h=>by cases h
 | .d _::_,_::_,[],_,h=>by cases h
 | .o _::_,_::_,[],_,h=>by cases h
 | .p _::_,ds,[],_,h=>by cases ds<;>cases h
theorem GQ:∀ (n:Nat) (a b:List TV),bZ n (a++b)=bZ n a++bZ (n+a.length) b
 | n,[],b=>by simp[bZ]
 | n,u::a,b=>by
  have:=GQ (n+1) a b;simp only[b4M,bZ,this,b4x,b3G];rw[show n+1+a.length=n+(a.length+1) by omega]
theorem sy:∀ (n:Nat) (a b:List TV),ca n (a++b)=ca n a++ca (n+a.length) b
 | n,[],b=>by simp[ca]
 | n,u::a,b=>by
  have:=sy (n+1) a b;simp only[b4M,ca,this,b3G];rw[show n+1+a.length=n+(a.length+1) by omega]
theorem cT.append:∀ {a b:List D} {x y:List Value} {f g:List Nat},cT w a x f->cT w b y g->cT w (a++b) (x++y) (f++g)
 | [],b,x,y,f,g,h,k=>by
  obtain⟨rfl,rfl⟩:=h;exact k
 | d::a,b,x,y,f,g,h,k=>by
  obtain⟨v,r,f1,f2,rfl,rfl,h3,h4⟩:=h;exact⟨v,r++y,f1,f2++g,rfl,by simp,h3,h4.append k⟩
theorem qB{m:List (Nat×Nat)}{S:Nat->Prop}{B:Nat->Nat}{G':Gh}{lk':Nat->Option aA}(hS:∀ b,S b->G'.S b)(hB:∀ j id,ah m j=some id->G'.η id = .pointer (some ⟨B j,0,none⟩)/\gf (lk' id)=true) :
  ∀ {ks:List CK} {cs:List AV} {ds:List TV} {n n':Nat} {r:List AV} {os:List (Nat×aA)} {l:List Value} {fp:List Nat},cn m ks cs ds n=some (r,os,n')->ja w S B ks ds l fp->aT (C1 c G' lk' w) (ca n (dD ks ds)) (kY ks l) ->
   aT (C1 c G' lk' w) r l
 | [],[],[],n,n',r,os,l,fp,h,hb,hc=>by
  simp only[cn,b3t,b3w] at h;obtain⟨rfl,rfl,rfl⟩:=h;match l,hb with
  | [],_=>trivial
 | .d τ::ks,c0::cs,v::ds,n,n',r,os,l,fp,h,hb,hc=>by
  simp only[cn] at h;split at h;case h_2=>cases h
  case h_1 hv =>
  split at h;case h_2=>cases h
  case h_1 r1 os1 n1 hr =>
  simp only[b3t,b3w] at h;obtain⟨rfl,rfl,rfl⟩:=h;match l,hb with
  | x::l,hb =>
   obtain⟨⟨e,h1,h2⟩,h3⟩:=hb;exact⟨⟨by rw[e];exact h1,Rd.aS hS (λ _ _=>rfl) _ h2⟩,qB hS hB hr h3 hc⟩
 | .o τ::ks,c0::cs,v::ds,n,n',r,os,l,fp,h,hb,hc=>by
  simp only[cn] at h;split at h;case h_2=>cases h
  case h_1 hv =>
  split at h;case h_2=>cases h
  case h_1 r1 os1 n1 hr =>
  simp only[b3t,b3w] at h;obtain⟨rfl,rfl,rfl⟩:=h;match l,hb with
  | x::l,hb =>
   obtain⟨f1,f2,rfl,⟨e,h1,h2⟩,h3⟩:=hb;exact⟨hc.1,qB hS hB hr h3 hc.2⟩
 | .p j::ks,c0::cs,ds,n,n',r,os,l,fp,h,hb,hc=>by
  simp only[cn] at h;split at h;case h_2=>cases h
  case h_1 id =>
  split at h;case h_2=>cases h
  case h_1 i hi =>
  split at h;case h_2=>cases h
  case h_1 r1 os1 n1 hbe hr =>
  have hbe:=b3x hbe;subst hbe;simp only[b3t,b3w] at h;obtain⟨rfl,rfl,rfl⟩:=h;match l,hb with
  | x::l,hb =>
   have hb:x = .pointer (some ⟨B j,0,none⟩)/\ja w S B ks ds l fp:=by cases ds<;>exact hb
   have hc:aT (C1 c G' lk' w) (ca n (dD ks ds)) (kY ks l):=by cases ds<;>exact hc
   obtain⟨q1,q2⟩:=hB j i hi;exact⟨⟨B j,q1,hb.1,q2⟩,qB hS hB hr hb.2 hc⟩
  | [],hb=>cases ds<;>cases hb
 | [],_::_,_,_,_,_,_,_,_,h,_,_=>by simp[cn] at h
 | [],[],_::_,_,_,_,_,_,_,h,_,_=>by simp[cn] at h
 | .d _::_,[],_,_,_,_,_,_,_,h,_,_=>by simp[cn] at h
 | .o _::_,[],_,_,_,_,_,_,_,h,_,_=>by simp[cn] at h
 | .p _::_,[],ds,_,_,_,_,_,_,h,_,_=>by cases ds<;>simp[cn] at h
 | .d _::_,_::_,[],_,_,_,_,_,_,h,_,_=>by simp[cn] at h
 | .o _::_,_::_,[],_,_,_,_,_,_,h,_,_=>by simp[cn] at h
theorem wY{m:List (Nat×Nat)}:∀ {ks:List CK} {cs:List AV} {ds:List TV} {n n':Nat} {r:List AV} {os:List (Nat×aA)},cn m ks cs ds n=some (r,os,n')->os=bZ n (dD ks ds)/\n'=n+(dD ks ds).length
 | [],[],[],n,n',r,os,h=>by
  simp only[cn,b3t,b3w] at h;obtain⟨rfl,rfl,rfl⟩:=h;exact⟨rfl,rfl⟩
 | .d τ::ks,c0::cs,v::ds,n,n',r,os,h=>by
  simp only[cn] at h;split at h;case h_2=>cases h
  case h_1 hv =>
  split at h;case h_2=>cases h
  case h_1 r1 os1 n1 hr =>
  simp only[b3t,b3w] at h;obtain⟨rfl,rfl,rfl⟩:=h;obtain⟨e1,e2⟩:=wY hr;exact⟨e1,e2⟩
 | .o τ::ks,c0::cs,v::ds,n,n',r,os,h=>by
  simp only[cn] at h;split at h;case h_2=>cases h
  case h_1 hv =>
  split at h;case h_2=>cases h
  case h_1 r1 os1 n1 hr =>
  simp only[b3t,b3w] at h;obtain⟨rfl,rfl,rfl⟩:=h;obtain⟨e1,e2⟩:=wY hr;exact⟨by rw[e1];rfl,by rw[e2];simp[dD];omega⟩
 | .p j::ks,c0::cs,ds,n,n',r,os,h=>by
  simp only[cn] at h;split at h;case h_2=>cases h
  case h_1 id =>
  split at h;case h_2=>cases h
  case h_1 i hi =>
  split at h;case h_2=>cases h
  case h_1 r1 os1 n1 hbe hr =>
  simp only[b3t,b3w] at h;obtain⟨rfl,rfl,rfl⟩:=h;obtain⟨e1,e2⟩:=wY hr;cases ds<;>exact⟨e1,e2⟩
 | [],_::_,_,_,_,_,_,h=>by simp[cn] at h
 | [],[],_::_,_,_,_,_,h=>by simp[cn] at h
 | .d _::_,[],_,_,_,_,_,h=>by simp[cn] at h
 | .o _::_,[],_,_,_,_,_,h=>by simp[cn] at h
 | .p _::_,[],ds,_,_,_,_,h=>by cases ds<;>simp[cn] at h
 | .d _::_,_::_,[],_,_,_,_,h=>by simp[cn] at h
 | .o _::_,_::_,[],_,_,_,_,h=>by simp[cn] at h
theorem Inv.a8p{s1:ai}(h1:Inv c G s1 a w){S' X:Nat->Prop}{IW:Nat->Option aA}(hk:bC X w w')(hX:∀ b,X b->c.w0.heap.size<=b\/c.X b)(hXS:∀ b,X b->¬ G.S b)
  (hS:∀ b,G.S b->S' b) (a1t:∀ b,S' b->b<w'.heap.size) (a3b:∀ b,b<w.heap.size->¬ X b->(S' b↔G.S b))
  (lq:∀ id,(IW id=s1.ah id/\∀ o b,s1.ah id=some o->eb (G.η id)=some b->¬ X b) \/
   ∃ cs dB,s1.ah id=some (.box cs)/\IW id=some (.box dB)/\(∀ b,eb (G.η id)=some b->¬ S' b)/\∃ b l t,G.η id = .pointer (some ⟨b,0,none⟩)/\w'.heap[b]?=some (.cells l.toArray t (0,0))/\∀ (G:Gh) (lk:Nat->Option aA),aT (C1 c G lk w') dB l)
  (Ho:∀ id τ xs b,s1.ah id=some (.aw τ xs)->b∈G.φ id->¬ X b):bu c ⟨S',G.η,G.φ⟩ s1.sl s1.aC.length IW a w':=by
 have eR:∀ id,eJ (s1.ah id) (IW id):=λ id=>by
  rcases lq id with ⟨e,_⟩|⟨cs,dB,e1,e2,_⟩
  .rw[e];exact eJ.refl _
  .rw[e1,e2];exact⟨λ _=>rfl,(λ e τ xs q=>by cases q),(λ q=>by cases q),λ q=>by cases q⟩
 have cw:∀ b,St c G.S b->w'.heap[b]?=w.heap[b]?:=λ b hb=>by
  rcases hb with hb|hb
  .exact hk.block b (h1.dE b hb) λ q=>hXS b q hb
  .exact hk.block b (b3P hb.1 h1.aS.size) λ q=>(hX b q).elim (λ q=>by omega) hb.2.1
 have hold:∀ id o,IW id=some o->∃ o',s1.ah id=some o'/\(∀ τ xs,o = .aw τ xs->o' = .aw τ xs):=λ id o ho=>by
  rcases lq id with ⟨e,_⟩|⟨cs,dB,e1,e2,_⟩
  .exact⟨o,by rw[<-e];exact ho,λ τ xs q=>q⟩
  .rw[e2] at ho;simp only[b3t] at ho;exact⟨_,e1,λ τ xs q=>by rw[q] at ho;cases ho⟩
 have Hn:∀ id τ xs,IW id=some (.aw τ xs)->s1.ah id=some (.aw τ xs):=λ id τ xs ht=>by
  obtain⟨o',q1,q2⟩:=hold id _ ht;rw[q1,q2 τ xs rfl]
 exact {
  defers:=h1.defers,size:=h1.size
  aS:=h1.aS.trans hk λ i hi hy=>(hX i hy).elim (λ q=>by omega) id
  jE:=h1.jE
  ez:=λ b hb hx=>(a3b b (b3P hb h1.aS.size) λ q=>(hX b q).elim (λ q=>by omega) hx).trans (h1.ez b hb hx)
  sX:=λ b hb=>hS b (h1.sX b hb)
  dE:=a1t
  aC:=λ i=>(h1.aC i).mono (λ id _=>⟨eR id,rfl⟩) hS cw
  aK:=λ id o ho=>by
   rcases lq id with ⟨e,e'⟩|⟨cs,dB,e1,e2,_,b,l,t,e3,e4,e5⟩
   .rw[e] at ho;exact (h1.aK id o ho).mono rfl (λ b hb=>hk.block b (h1.place id o b ho hb).2.2 (e' o b ho hb)) (λ j _=>⟨eR j,rfl⟩) hS cw
   .rw[e2] at ho;simp only[b3t] at ho;subst ho;exact⟨b,l,t,e3,e4,e5 _ _⟩
  place:=λ id o b ho hb=>by
   obtain⟨o',q1,_⟩:=hold id o ho;obtain⟨p1,p2,p3⟩:=h1.place id o' b q1 hb;refine⟨p1,?_,b3P p3 hk.size⟩;rcases lq id with ⟨e,e'⟩|⟨cs,dB,e1,e2,e3,_⟩
   .exact λ q=>p2 ((a3b b p3 (e' o' b q1 hb)).1 q)
   .exact e3 b hb
  apart:=λ id dx o o' b ho cO hb cz=>by
   obtain⟨p,q1,_⟩:=hold id o ho;obtain⟨p',q2,_⟩:=hold dx o' cO;exact h1.apart id dx p p' b q1 q2 hb cz
  aR:={
   tr:=λ id τ xs ht=>(h1.aR.tr id τ xs (Hn id τ xs ht)).aS λ b hb=>hk.block b (h1.aR.pl id τ xs b (Hn id τ xs ht) hb).2.2.1 (Ho id τ xs b (Hn id τ xs ht) hb)
   nd:=λ id τ xs ht=>h1.aR.nd id τ xs (Hn id τ xs ht)
   pl:=λ id τ xs b ht hb=>by
    obtain⟨p1,p2,p3,p4⟩:=h1.aR.pl id τ xs b (Hn id τ xs ht) hb;refine⟨p1,λ q=>p2 ((a3b b p3 (Ho id τ xs b (Hn id τ xs ht) hb)).1 q),b3P p3 hk.size,λ i o ho=>?_⟩;obtain⟨o',q1,_⟩:=hold i o ho;exact p4 i o' q1
   ap:=λ id dx τ bf xs cR b ht TC=>h1.aR.ap id dx τ bf xs cR b (Hn id τ xs ht) (Hn dx bf cR TC) }
  root:=λ id v hr ht=>h1.root id v hr (by
   match hl:IW id,ht with
   | some (.aw τ xs),_=>rw[Hn id τ xs hl];rfl)
  iO:=h1.iO
  du:=λ id v hr ht=>h1.du id v hr (by
   rcases lq id with ⟨e,_⟩|⟨cs,dB,e1,e2,_⟩
   .rw[<-e];exact ht
   .rw[e1];rfl)
  fc:=h1.fc }
theorem bu.b2A{sl:Nat->AV}{n:Nat}{lk lk2:Nat->Option aA}(h:bu c G sl n lk a w)(lq:∀ id,lk2 id=lk id\/∃ cs dB,lk id=some (.box cs)/\lk2 id=some (.box dB)/\∃ b l t,G.η id = .pointer (some ⟨b,0,none⟩)/\w.heap[b]?=some (.cells l.toArray t (0,0))/\aT (C1 c G lk2 w) dB l) :
  bu c G sl n lk2 a w:=by
 have eR:∀ id,eJ (lk id) (lk2 id):=λ id=>by
  rcases lq id with e|⟨cs,dB,e1,e2,_⟩
  .rw[e];exact eJ.refl _
  .rw[e1,e2];exact⟨λ _=>rfl,(λ e τ xs q=>by cases q),(λ q=>by cases q),λ q=>by cases q⟩
 have hold:∀ id o,lk2 id=some o->∃ o',lk id=some o'/\(∀ τ xs,o = .aw τ xs->o' = .aw τ xs):=λ id o ho=>by
  rcases lq id with e|⟨cs,dB,e1,e2,_⟩
  .exact⟨o,by rw[<-e];exact ho,λ τ xs q=>q⟩
  .rw[e2] at ho;simp only[b3t] at ho;exact⟨_,e1,λ τ xs q=>by rw[q] at ho;cases ho⟩
 have Hn:∀ id τ xs,lk2 id=some (.aw τ xs)->lk id=some (.aw τ xs):=λ id τ xs ht=>by
  obtain⟨o',q1,q2⟩:=hold id _ ht;rw[q1,q2 τ xs rfl]
 exact {
  defers:=h.defers,size:=h.size,aS:=h.aS,jE:=h.jE,ez:=h.ez,sX:=h.sX,dE:=h.dE
  aC:=λ i=>(h.aC i).mono (λ id _=>⟨eR id,rfl⟩) (λ _ q=>q) (λ _ _=>rfl)
  aK:=λ id o ho=>by
   rcases lq id with e|⟨cs,dB,e1,e2,b,l,t,e3,e4,e5⟩
   .rw[e] at ho;exact (h.aK id o ho).mono rfl (λ _ _=>rfl) (λ j _=>⟨eR j,rfl⟩) (λ _ q=>q) (λ _ _=>rfl)
   .rw[e2] at ho;simp only[b3t] at ho;subst ho;exact⟨b,l,t,e3,e4,e5⟩
  place:=λ id o b ho hb=>by
   obtain⟨o',q1,_⟩:=hold id o ho;exact h.place id o' b q1 hb
  apart:=λ id dx o o' b ho cO hb cz=>by
   obtain⟨p,q1,_⟩:=hold id o ho;obtain⟨p',q2,_⟩:=hold dx o' cO;exact h.apart id dx p p' b q1 q2 hb cz
  aR:={
   tr:=λ id τ xs ht=>h.aR.tr id τ xs (Hn id τ xs ht)
   nd:=λ id τ xs ht=>h.aR.nd id τ xs (Hn id τ xs ht)
   pl:=λ id τ xs b ht hb=>by
    obtain⟨p1,p2,p3,p4⟩:=h.aR.pl id τ xs b (Hn id τ xs ht) hb;refine⟨p1,p2,p3,λ i o ho=>?_⟩;obtain⟨o',q1,_⟩:=hold i o ho;exact p4 i o' q1
   ap:=λ id dx τ bf xs cR b ht TC=>h.aR.ap id dx τ bf xs cR b (Hn id τ xs ht) (Hn dx bf cR TC) }
  root:=λ id v hr ht=>h.root id v hr (by
   match hl:lk2 id,ht with
   | some (.aw τ xs),_=>rw[Hn id τ xs hl];rfl)
  iO:=h.iO
  du:=λ id v hr ht=>h.du id v hr (by
   rcases lq id with e|⟨cs,dB,e1,e2,_⟩
   .rw[<-e];exact ht
   .rw[e1];rfl)
  fc:=h.fc }
theorem Jk{m:List (Nat×Nat)}{S:Nat->Prop}{B:Nat->Nat}{lk:Nat->Option aA}:∀ {sh:List (List CK)} {k:Nat} {bM:List (List TV)} {n:Nat} {bs ts:List (Nat×aA)} {fp:List Nat},ss lk m sh k bM n=some (bs,ts)->fE w S B k sh bM fp ->
  ∃ wH xs,ts=bZ n wH/\cT w (wH.map TV.aP) xs fp/\(∀ u∈wH,u.τ.agg=false) /\
   (∀ j,k<=j->j<k+sh.length->∃ (id:Nat) (dB:List AV) (l:List Value) (t:TypeId),ah m j=some id/\(id,aA.box dB)∈bs/\w.heap[B j]?=some (.cells l.toArray t (0,0))/\l.length=dB.length) /\
   (∀ p∈bs,∃ (j:Nat) (dB:List AV) (l:List Value) (t:TypeId),k<=j/\j<k+sh.length/\ah m j=some p.1/\p.2 = .box dB/\w.heap[B j]?=some (.cells l.toArray t (0,0))/\l.length=dB.length /\
    ∀ (G':Gh) (lk':Nat->Option aA),(∀ b,S b->G'.S b)->(∀ j id,ah m j=some id->G'.η id = .pointer (some ⟨B j,0,none⟩)/\gf (lk' id)=true)->aT (C1 c G' lk' w) (ca n wH) xs->aT (C1 c G' lk' w) dB l)
 | [],k,[],n,bs,ts,fp,h,hb=>by
  simp only[ss,b3t,b3w] at h;obtain⟨rfl,rfl⟩:=h;exact⟨[],[],rfl,⟨rfl,hb⟩,by simp,λ j h1 h2=>by simp at h2;omega,by simp⟩
 | ks::sh,k,ds::bM,n,bs,ts,fp,h,hb=>by
  simp only[ss] at h;split at h;case h_2=>cases h
  case h_1 id aZ =>
  split at h;case h_2=>cases h
  case h_1 cs ka =>
  split at h;case h_2=>cases h
  case h_1 r os n1 hr =>
  split at h;case h_2=>cases h
  case h_1 bs1 ts1 hr2 =>
  simp only[b3t,b3w] at h;obtain⟨rfl,rfl⟩:=h;obtain⟨l,t,f1,f2,rfl,hw,hB,hbs⟩:=hb;obtain⟨e1,e2⟩:=wY hr;obtain⟨wH,xs,q1,q2,q3,q4,q5⟩:=Jk hr2 hbs;obtain⟨o1,o2,o3⟩:=hB.wH;have AI:∀ {G':Gh} {lk':Nat->Option aA},aT (C1 c G' lk' w) (ca n (dD ks ds++wH)) (kY ks l++xs)->aT (C1 c G' lk' w) (ca n (dD ks ds)) (kY ks l)/\aT (C1 c G' lk' w) (ca n1 wH) xs:=λ {G' lk'} q=>by
   rw[sy,<-e2] at q;have hl:(ca n (dD ks ds)).length=(kY ks l).length:=by
    rw[<-o3];have:∀ (us:List TV) (n:Nat),(ca n us).length=us.length:=λ us=>by
     induction us with
     | nil=>intro n;rfl
     | cons u us ih=>intro n;simp[ca,ih]
    exact this _ _
   have h1:=q.take (ca n (dD ks ds)).length;have h2:=q.drop (ca n (dD ks ds)).length;rw[b5G,hl,b5G] at h1;rw[b5M,hl,b5M] at h2;exact⟨h1,h2⟩
  have hrl:l.length=r.length:=by
   have:∀ {ks:List CK} {cs:List AV} {ds:List TV} {n n':Nat} {r:List AV} {os:List (Nat×aA)} {l:List Value} {fp:List Nat},cn m ks cs ds n=some (r,os,n')->ja w S B ks ds l fp->l.length=r.length:=by
    intro ks;induction ks with
    | nil =>
     intro cs ds n n' r os l fp h hb;cases cs<;>cases ds<;>simp[cn] at h;obtain⟨rfl,_⟩:=h;cases l with
     | nil=>rfl
     | cons x l=>cases hb
    | cons k0 ks ih =>
     intro cs ds n n' r os l fp h hb;cases l with
     | nil=>cases k0<;>cases ds<;>cases hb
     | cons x l =>
      cases k0 with
      | d τ =>
       cases cs with
       | nil=>simp[cn] at h
       | cons c0 cs =>
        cases ds with
        | nil=>cases hb
        | cons v ds =>
         simp only[cn] at h;split at h;case h_2=>cases h
         case h_1 hv =>
         split at h;case h_2=>cases h
         case h_1 r1 os1 n1 hr =>
         simp only[b3t,b3w] at h;obtain⟨rfl,rfl,rfl⟩:=h;obtain⟨_,h2⟩:=hb;simp[ih hr h2]
      | o τ =>
       cases cs with
       | nil=>simp[cn] at h
       | cons c0 cs =>
        cases ds with
        | nil=>cases hb
        | cons v ds =>
         simp only[cn] at h;split at h;case h_2=>cases h
         case h_1 hv =>
         split at h;case h_2=>cases h
         case h_1 r1 os1 n1 hr =>
         simp only[b3t,b3w] at h;obtain⟨rfl,rfl,rfl⟩:=h;obtain⟨_,_,_,_,h2⟩:=hb;simp[ih hr h2]
      | p j =>
       cases cs with
       | nil=>cases ds<;>simp[cn] at h
       | cons c0 cs =>
        have hb:x = .pointer (some ⟨B j,0,none⟩)/\ja w S B ks ds l fp:=by cases ds<;>exact hb
        simp only[cn] at h;split at h;case h_2=>cases h
        case h_1 id =>
        split at h;case h_2=>cases h
        case h_1 i hi =>
        split at h;case h_2=>cases h
        case h_1 r1 os1 n1 hbe hr =>
        simp only[b3t,b3w] at h;obtain⟨rfl,rfl,rfl⟩:=h;simp[ih hr hb.2]
   exact this hr hB
  refine⟨dD ks ds++wH,kY ks l++xs,by rw[GQ,e1,q1,e2],by rw[b5n];exact o1.append q2,λ u hu=>(b3y.1 hu).elim (o2 u) (q3 u),λ j h1 h2=>?_,λ p hp=>?_⟩
  .by_cases hj:j=k
   .subst hj;exact⟨id,r,l,t,aZ,b5U ..,hw,hrl⟩
   .obtain⟨dx,dB,l',t',g1,g2,g3,g4⟩:=q4 j (by omega) (by simp at h2;omega);exact⟨dx,dB,l',t',g1,b5c _ g2,g3,g4⟩
  .rcases b3S.1 hp with rfl|hp
   .exact⟨k,r,l,t,b4h _,by simp,aZ,rfl,hw,hrl,λ G' lk' h1 h2 h3=>qB h1 h2 hr hB (AI h3).1⟩
   .obtain⟨j,dB,l',t',g1,g2,g3,g4,g5,g7,g6⟩:=q5 p hp;exact⟨j,dB,l',t',by omega,by simp;omega,g3,g4,g5,g7,λ G' lk' h1 h2 h3=>g6 G' lk' h1 h2 (AI h3).2⟩
 | [],_,_::_,_,_,_,_,h,_=>by simp[ss] at h
 | _::_,_,[],_,_,_,_,h,_=>by simp[ss] at h
theorem tI{α:Type}:∀ {l:List (Nat×α)} {k:Nat},(∀ p∈l,p.1≠k)->ah l k=none
 | [],k,_=>rfl
 | (j,o)::l,k,h=>by
  rw[pr,b3H (λ e=>h (j,o) (by simp) e.symm)];exact tI λ p hp=>h p (by simp[hp])
theorem IY:∀ (ids:List Nat) (l:List (Nat×aA)) (i:Nat),ah (gG ids l) i=if i∈ids then none else ah l i
 | [],l,i=>by simp[gG]
 | id::r,l,i=>by
  rw[gG,IY r,eH];by_cases h1:i∈r
  .simp[h1]
  .by_cases h2:i=id
   .simp[h1,h2]
   .simp[h1,h2]
theorem JW{m:List (Nat×Nat)}(h2:(m.map (·.2)).Nodup){j k id:Nat}(hj:ah m j=some id)(hk:ah m k=some id):j=k:=by
 have e1:=eV hj;have e2:=eV hk;have:(j,id)=(k,id):=by
  clear hj hk;induction m with
  | nil=>cases e1
  | cons p m ih =>
   simp only[b4o,b4n] at h2;rcases b3S.1 e1 with q1|e1
   .rcases b3S.1 e2 with q2|e2
    .rw[q1,q2]
    .exact absurd (b3E.2 ⟨(k,id),e2,by rw[<-q1]⟩) h2.1
   .rcases b3S.1 e2 with q2|e2
    .exact absurd (b3E.2 ⟨(j,id),e1,by rw[<-q2]⟩) h2.1
    .exact ih h2.2 e1 e2
 exact congrArg Prod.fst this
theorem B7{m:List (Nat×Nat)}{k id:Nat}(h:ah m k=some id):id∈m.map (·.2):=b3E.2 ⟨_,eV h,rfl⟩
theorem a5z{m:List (Nat×Nat)}{n:Nat}(h1:(m.map (·.1)).Nodup)(hl:m.length=n)(hk:∀ k,k<n->∃ id,ah m k=some id):∀ p∈m,p.1<n:=by
 have th:List.range n ⊆ m.map (·.1):=λ k lF=>by
  obtain⟨id,q⟩:=hk k (List.mem_range.1 lF);exact b3E.2 ⟨_,eV q,rfl⟩
 have Rm:(m.map (·.1)) ⊆ List.range n:=by
  intro x hx;refine b6m λ hn=>?_;have h3:(x::List.range n).Nodup:=b4n.2 ⟨hn,b6t⟩;have h4:(x::List.range n) ⊆ m.map (·.1):=λ y hy=>(b3S.1 hy).elim (λ e=>e ▸ hx) (λ hy=>th hy);have:=b5V h3 h4;simp at this;omega
 exact λ p hp=>List.mem_range.1 (Rm (b3E.2 ⟨p,hp,rfl⟩))
theorem a3R(hE:bE c.P c.E)(h:Inv c G s a w){o:Oper}{vc:Vc}{s':ai}(hq:sop c.E s o=some (vc,s'))(er:vc.ok){Q:Exit->Act->World->Prop} :
  o.wp c.P a w (λ a' w'=>∃ G',Inv c G' s' a' w') Q:=by
 unfold sop at hq;split at hq;case h_2=>cases hq
 case h_1 d hd =>
 split at hq;case h_2=>cases hq
 case h_1 cl bx =>
 split at hq;case h_2=>cases hq
 case h_1 f gQ =>
 split at hq;case h_2=>cases hq
 case h_1 sk hsk =>
 split at hq;case h_2=>cases hq
 case h_1 m0 hm0 =>
 split at hq;case h_2=>cases hq
 case h_1 bM ids m hm =>
 split at hq;case h_2=>cases hq
 case h_1 a9F =>
 split at hq;case h_2=>cases hq
 case h_1 Z9 has =>
 split at hq;case h_2=>cases hq
 case h_1 pre res dJ hc =>
 split at hq;case h_2=>cases hq
 case h_1 bs ts qU =>
 split at hq;case h_2=>cases hq
 case h_1 KS =>
 simp only[Option.some.injEq,Prod.mk.injEq] at hq;obtain⟨rfl,rfl⟩:=hq;simp only[Bool.and_eq_true] at a9F;obtain⟨V2,XX,XY,hn4⟩:=a9F;have V2:=cW V2;have XX:=cW XX;have XY:=cW XY;have hn4:=Nat.eq_of_beq_eq_true hn4;simp only[Bool.and_eq_true,List.all_eq_true] at KS;have uN:∀ p∈bw (bT d) res++ts,(ids.foldl ai.gone s).ah p.1=none:=λ p hp=>by simpa using KS.1 p hp
 have qT:=cW KS.2;obtain⟨nF,ig⟩:=hE.Zu f sk Z9 bM pre res dJ hsk hc er;obtain⟨_,a0a⟩:=xA hm0;obtain⟨hx0,a0c,fa,VQ,SP,b2e⟩:=vK h hm V2;have VQ:=VQ m (k9.refl m);have a0a:∀ (i k:Nat),sk.ps[i]?=some (some k)->∃ id,(cl.args.toList.map s.eval)[i]?=some (AV.ptr id 0)/\ah m k=some id:=λ i k q=>by
  obtain⟨id,q1,q2⟩:=a0a i k q;exact⟨id,q1,hx0 k id q2⟩
 have h1:Inv c G (ids.foldl ai.gone s) a w:=ye ids h;have hF:∀ b,b∈fa->wJ c G (ids.foldl ai.gone s).ah w b:=λ b hb=>O7 h (b2e b hb);have EX:∀ k,k<sk.sh.length->∃ (id:Nat) (cs:List AV),ah m k=some id/\(ids.foldl ai.gone s).ah id=some (.box cs):=λ k hk=>by
  obtain⟨id,cs,q1,q2⟩:=a0c k (Nat.zero_le _) (by simpa using hk);refine⟨id,?_⟩;have aZ:id∉ids:=λ hi=>by
   have:∀ {sh:List (List CK)} {k:Nat} {m m':List (Nat×Nat)} {bM:List (List TV)} {ids:List Nat},iZ s.ah sh k m=some (bM,ids,m')->∀ i∈ids,∀ cs,s.ah i≠some (.box cs):=by
    have nB:∀ {ks:List CK} {cs:List AV} {m m':List (Nat×Nat)} {ds:List TV} {ids:List Nat},dd s.ah ks cs m=some (ds,ids,m')->∀ i∈ids,∀ cs,s.ah i≠some (.box cs):=by
     intro ks;induction ks with
     | nil =>
      intro cs m m' ds ids ht;cases cs<;>simp[dd] at ht;obtain⟨_,rfl,_⟩:=ht;simp
     | cons k0 ks ih =>
      intro cs m m' ds ids ht;cases cs with
      | nil=>cases k0<;>simp[dd] at ht
      | cons v cs =>
       cases k0 with
       | d τ =>
        simp only[dd] at ht;split at ht;case h_2=>cases ht
        case h_1 y hy p6 =>
        split at ht;case h_2=>cases ht
        case h_1 ds1 a1C m1 hr =>
        simp only[b3t,b3w] at ht;obtain⟨_,rfl,_⟩:=ht;exact ih hr
       | o τ =>
        simp only[dd] at ht;split at ht;case h_2=>cases ht
        case h_1 y i hy p6 =>
        split at ht;case h_2=>cases ht
        case h_1 ds1 a1C m1 hr =>
        simp only[b3t,b3w] at ht;obtain⟨_,rfl,_⟩:=ht;intro j hj cs2;rcases b3y.1 hj with hj|hj
        .unfold dY at hy;split at hy
         .split at hy
          .simp only[b3t,b3w] at hy;obtain⟨_,rfl⟩:=hy;cases hj
          .cases hy
         .split at hy
          .simp only[b3t,b3w] at hy;obtain⟨_,rfl⟩:=hy;cases hj
          .cases hy
         .split at hy
          .rename_i hl;split at hy
           .simp only[b3t,b3w] at hy;obtain⟨_,rfl⟩:=hy;simp only[b4e] at hj;subst hj;rw[hl];simp
           .cases hy
          .cases hy
         .split at hy
          .rename_i hl;split at hy
           .simp only[b3t,b3w] at hy;obtain⟨_,rfl⟩:=hy;simp only[b4e] at hj;subst hj;rw[hl];simp
           .cases hy
          .cases hy
         .cases hy
        .exact ih hr j hj cs2
       | p j =>
        simp only[dd] at ht;split at ht;case h_2=>cases ht
        case h_1 id =>
        split at ht
        .split at ht
         .exact ih ht
         .cases ht
        .exact ih ht
    intro sh;induction sh with
    | nil =>
     intro k m m' bM ids ht;simp only[iZ,b3t,b3w] at ht;obtain⟨_,rfl,_⟩:=ht;simp
    | cons ks sh ih =>
     intro k m m' bM ids ht;simp only[iZ] at ht;split at ht;case h_2=>cases ht
     case h_1 id aZ =>
     split at ht;case h_2=>cases ht
     case h_1 cs ka =>
     split at ht;case h_2=>cases ht
     case h_1 ds i m1 hr =>
     split at ht;case h_2=>cases ht
     case h_1 b1M a1C m2 hr2 =>
     simp only[b3t,b3w] at ht;obtain⟨_,rfl,_⟩:=ht;intro j hj cs2;rcases b3y.1 hj with hj|hj
     .exact nB hr j hj cs2
     .exact ih hr2 j hj cs2
   exact this hm id hi cs q2
  have:∀ (ids:List Nat) (s:ai) (cs:List AV),id∉ids->s.ah id=some (.box cs)->∃ dB,(ids.foldl ai.gone s).ah id=some (.box dB):=by
   intro ids;induction ids with
   | nil=>intro s cs _ hs;exact⟨cs,hs⟩
   | cons i ids ih =>
    intro s cs hi hs;have eQ:id≠i:=λ e=>hi (by simp[e]);refine ih (s.gone i) (cs.map (AV.kill i)) (λ q=>hi (by simp[q])) ?_;rw[Fe,b3H eQ,hs];rfl
  obtain⟨dB,q3⟩:=this ids s cs aZ q2;exact⟨dB,q1,q3⟩
 generalize hs1:ids.foldl ai.gone s=s1 at *
 have eu:∀ k id,ah m k=some id->k<sk.sh.length->G.η id = .pointer (some ⟨kP G m k,0,none⟩)/\eb (G.η id)=some (kP G m k):=λ k id hk bK=>by
  obtain⟨dx,cs,q1,q2⟩:=EX k bK;rw[hk] at q1;simp only[b3t] at q1;subst q1;obtain⟨b,l,t,k1,_⟩:=h1.aK id _ q2;have:kP G m k=b:=by
   simp only[kP,hk,k1];rfl
  rw[this,k1];exact⟨rfl,rfl⟩
 have kF:=a5z XX hn4 (λ k hk=>by obtain⟨id,_,q,_⟩:=EX k hk;exact⟨id,q⟩);have a4v:∀ id,id∈m.map (·.2)->∃ k cs,k<sk.sh.length/\ah m k=some id/\s1.ah id=some (.box cs):=λ id aZ=>by
  obtain⟨⟨k,dx⟩,hp,rfl⟩:=b3E.1 aZ;have hk:=kF _ hp;have hl:=wW XX hp;obtain⟨id2,cs,q1,q2⟩:=EX k hk;rw[hl] at q1;simp only[b3t] at q1;subst q1;exact⟨k,cs,hk,hl,q2⟩
 have FZ:∀ j k,j<sk.sh.length->k<sk.sh.length->kP G m j=kP G m k->j=k:=λ j k hj hk e=>by
  obtain⟨idj,csj,j1,j2⟩:=EX j hj;obtain⟨idk,csk,k1,k2⟩:=EX k hk;have:=h1.apart idj idk _ _ (kP G m j) j2 k2 (eu j idj j1 hj).2 (by rw[e];exact (eu k idk k1 hk).2);subst this;exact JW XY j1 k1
 have YX:∀ k,k<sk.sh.length->(c.w0.heap.size<=kP G m k\/c.X (kP G m k))/\¬ G.S (kP G m k)/\kP G m k<w.heap.size:=λ k hk=>by
  obtain⟨id,cs,k1,k2⟩:=EX k hk;exact h1.place id _ _ k2 (eu k id k1 hk).2
 have a9H:∀ b∈fa,∀ k,k<sk.sh.length->kP G m k≠b:=λ b hb k hk e=>by
  obtain⟨id,cs,k1,k2⟩:=EX k hk;exact (hF b hb).2.2.2.1 id _ k2 (by rw[<-e];exact (eu k id k1 hk).2)
 have hXo:∀ b,BX sk.sh.length (kP G m) fa b->(c.w0.heap.size<=b\/c.X b)/\¬ G.S b:=λ b hb=>by
  rcases hb with hb|⟨k,hk,rfl⟩
  .exact⟨(hF b hb).1,(hF b hb).2.1⟩
  .exact⟨(YX k hk).1,(YX k hk).2.1⟩
 have wg:∀ b,BX sk.sh.length (kP G m) fa b->¬ St c G.S b:=λ b hb q=>by
  obtain⟨q1,q2⟩:=hXo b hb;rcases q with q|⟨q,q3,_⟩
  .exact q2 q
  .exact q1.elim (λ q=>by omega) q3
 have lX:∀ id o b,id∉m.map (·.2)->s1.ah id=some o->eb (G.η id)=some b->¬ BX sk.sh.length (kP G m) fa b:=λ id o b aZ ho hb q=>by
  rcases q with q|⟨k,hk,rfl⟩
  .exact (hF b q).2.2.2.1 id _ ho hb
  .obtain⟨dx,cs,k1,k2⟩:=EX k hk;have:=h1.apart id dx _ _ _ ho k2 hb (eu k dx k1 hk).2;subst this;exact aZ (B7 k1)
 have a9B:∀ id τ xs b,s1.ah id=some (.aw τ xs)->b∈G.φ id->¬ BX sk.sh.length (kP G m) fa b:=λ id τ xs b ht hb q=>by
  rcases q with q|⟨k,hk,rfl⟩
  .exact (hF b q).2.2.2.2 id τ xs ht hb
  .obtain⟨dx,cs,k1,k2⟩:=EX k hk;exact (h1.aR.pl id τ xs _ ht hb).2.2.2 dx _ k2 (eu k dx k1 hk).2
 have E5:∀ id o b,sLk sk.sh s1.ah (m.map (·.2)) id=some o->eb (G.η id)=some b->¬ BX sk.sh.length (kP G m) fa b:=λ id o b ho hb=>lX id o b (Qx ho).2 (Qx ho).1 hb;have a8B:ZE c.P f sk.sh res dJ w G.S (kP G m) (cl.args.toList.map a.eval) fa:=by
  cases XV:O4 sk.sh with
  | false =>
   have gm:∀ id o,sLk sk.sh s1.ah (m.map (·.2)) id=some o->∃ cs,o = .box cs:=λ id o q=>by
    unfold sLk at q;rw[XV] at q;exact (Zh q).2.2
   have dw:=Bx hE h1 (mf:=m) (λ _ q=>q) (λ id o ho=>(Qx ho).1) (λ τ v x y q1 q2=>HH (λ id e τ xs q=>by obtain⟨cs,e⟩:=gm _ _ q;cases e) (λ id τ xs q=>by obtain⟨cs,e⟩:=gm _ _ q;cases e) q1 q2) wg E5 (lk0:=s.ah) has (aT.lC (br h1) cl.args.toList) (aT.lC (br h) cl.args.toList) a0a;exact ig w G.S (kP G m) _ fa h1.sOk VQ SP (λ b hb=>⟨(hF b hb).2.2.1,(hF b hb).2.1,a9H b hb⟩) (λ k hk=>⟨(YX k hk).2.2,(YX k hk).2.1⟩) FZ dw
  | true =>
   have dw:=Bx hE h1 (mf:=m) (S1:=SX G s1.ah) (λ _ q => .inl q) (λ id o ho=>(Qx ho).1) (λ τ v x y q1 q2=>Ag h1.aR h1.aK (λ id o ho=>(Qx ho).1) q1 q2) wg E5 (lk0:=s.ah) has (aT.lC (br h1) cl.args.toList) (aT.lC (br h) cl.args.toList) a0a;refine ig.more XV h1.a2p (λ _ q => .inl q) (λ b hb q=>?_) VQ SP (λ b hb=>⟨(hF b hb).2.2.1,(hF b hb).2.1,a9H b hb⟩) (λ k hk=>⟨(YX k hk).2.2,(YX k hk).2.1⟩) FZ dw;rcases q with q|⟨id,e,τ,xs,q1,q2⟩|⟨id,τ,xs,q1,q2⟩
   .exact (hXo b hb).2 q
   .refine lX id _ b (λ aZ=>?_) q1 q2 hb;obtain⟨_,cs,_,_,q3⟩:=a4v id aZ;rw[q1] at q3;cases q3
   .exact a9B id τ xs b q1 q2 hb
 unfold Oper.wp;rw[gR bx gQ rfl nF];simp only[Oper.upon];refine Calls.mono (show ZE c.P f sk.sh res dJ w G.S (kP G m) (cl.args.toList.map a.eval) fa from a8B) ?_;rintro e w' ⟨x,S',fp,KB,rfl,hk,hS1,hS2,hS3,hO,hB',cQ,lY,hBS⟩;obtain⟨wH,xs,e1,e2,e3,e4,e5⟩:=Jk qU hB';let IW:Nat->Option aA:=λ i=>match ah bs i with
  | some (.box cs)=>some (.box (List.replicate cs.length .any))
  | _=>s1.ah i
 have a0d:∀ id,id∈m.map (·.2)->∃ (k:Nat) (dB:List AV),k<sk.sh.length/\ah m k=some id/\ah bs id=some (.box dB)/\∃ (l:List Value) (t:TypeId),w'.heap[kP G m k]?=some (.cells l.toArray t (0,0))/\l.length=dB.length:=λ id aZ=>by
  obtain⟨k,cs,k1,k2,k3⟩:=a4v id aZ;obtain⟨dx,dB,l,t,g1,g2,g3,g4⟩:=e4 k (Nat.zero_le _) (by simpa using k1);rw[k2] at g1;simp only[Option.some.injEq] at g1;subst g1;have cr:∃ o,ah bs id=some o:=by
   cases hl:ah bs id with
   | some o=>exact⟨o,rfl⟩
   | none =>
    exfalso;have:∀ {l:List (Nat×aA)} {k:Nat},ah l k=none->∀ p∈l,p.1≠k:=by
     intro l;induction l with
     | nil=>intro k _ p hp;cases hp
     | cons q l ih =>
      intro k hq p hp;obtain⟨j,o⟩:=q;rw[pr] at hq;split at hq
      .cases hq
      .rename_i eQ;rcases b3S.1 hp with rfl|hp
       .exact λ e=>eQ e.symm
       .exact ih hq p hp
    exact this hl _ g2 rfl
  obtain⟨o,ho⟩:=cr;obtain⟨j,cs2,l2,t2,_,j2,j3,j4,j5,j6,_⟩:=e5 _ (eV ho);have:j=k:=JW XY j3 k2;subst this;simp only at j4;subst j4;exact⟨j,cs2,k1,k2,ho,l2,t2,j5,j6⟩
 have a9E:∀ id,id∉m.map (·.2)->ah bs id=none:=λ id aZ=>tI λ p hp e=>by
  obtain⟨j,_,_,_,_,_,j3,_⟩:=e5 p hp;exact aZ (e ▸ B7 j3)
 have Y3:∀ id,id∉m.map (·.2)->IW id=s1.ah id:=λ id aZ=>by simp only[IW,a9E id aZ]
 have a6W:∀ id k dB,ah m k=some id->ah bs id=some (.box dB)->IW id=some (.box (List.replicate dB.length .any)):=λ id k dB _ hb=>by simp only[IW,hb]
 have hA:bu c ⟨S',G.η,G.φ⟩ s1.sl s1.aC.length IW a w':=by
  refine Inv.a8p h1 (X:=BX sk.sh.length (kP G m) fa) hk (λ b hb=>(hXo b hb).1) (λ b hb=>(hXo b hb).2) hS1 hS2 hS3 (λ id=>?_) a9B;by_cases aZ:id∈m.map (·.2)
  .obtain⟨k,dB,q1,q2,q3,l,t,q4,q5⟩:=a0d id aZ;obtain⟨_,cs,_,_,q6⟩:=a4v id aZ;obtain⟨g1,g2⟩:=eu k id q2 q1;refine .inr ⟨cs,_,q6,a6W id k dB q2 q3,λ b hb=>?_,kP G m k,l,t,g1,q4,λ G' lk'=>?_⟩
   .rw[g2] at hb;simp only[b3t] at hb;subst hb;exact hBS k q1
   .have:∀ (l:List Value),aT (C1 c G' lk' w') (List.replicate l.length .any) l:=λ l=>by
     induction l with
     | nil=>exact trivial
     | cons x l ih=>exact⟨ae,ih⟩
    rw[<-q5];exact this l
  .exact .inl ⟨Y3 id aZ,λ o b ho hb=>lX id o b aZ ho hb⟩
 have a7b:∀ p∈bw (bT d) res++ts,p.1∉m.map (·.2):=λ p hp aZ=>by
  obtain⟨_,cs,_,_,q⟩:=a4v p.1 aZ;rw[uN p hp] at q;cases q
 rw[b4a] at cQ;obtain⟨nd1,nd2,nd3⟩:=cQ;rw[b5n,b4a] at qT;obtain⟨dd1,dd2,dd3⟩:=qT;have hFr:Fr c ⟨S',G.η,G.φ⟩ IW w' (fp++KB):=λ b hb=>by
  obtain⟨q1,q2,q3⟩:=lY b hb;have p7:∀ i o,IW i=some o->eb (G.η i)≠some b:=λ i o cF e=>by
   by_cases aZ:i∈m.map (·.2)
   .obtain⟨k,dB,g1,g2,_⟩:=a0d i aZ;rw[(eu k i g2 g1).2] at e;simp only[b3t] at e;exact q3 k g1 e
   .rw[Y3 i aZ] at cF;rcases q1 with q1|⟨q1,_⟩
    .exact (hF b q1).2.2.2.1 i o cF e
    .have:=(h1.place i o b cF e).2.2;omega
  have hbt:∀ j τ zs,IW j=some (.aw τ zs)->b∉G.φ j:=λ j τ zs hj nA=>by
   by_cases aZ:j∈m.map (·.2)
   .obtain⟨k,dB,g1,g2,g3,_⟩:=a0d j aZ;rw[a6W j k dB g2 g3] at hj;cases hj
   .rw[Y3 j aZ] at hj;rcases q1 with q1|⟨q1,_⟩
    .exact (hF b q1).2.2.2.2 j τ zs hj nA
    .have:=(h1.aR.pl j τ zs b hj nA).2.2.1;omega
  rcases q1 with q1|⟨q1,q1'⟩
  .exact⟨(hF b q1).1,q2,b3P (hF b q1).2.2.1 hk.size,p7,hbt⟩
  .exact⟨.inl (b5r h1.aS.size q1),q2,q1',p7,hbt⟩
 have Is:∀ j,bT d<=j->c.R j=none:=λ j hj=>by
  cases hr:c.R j with
  | none=>rfl
  | some v=>have:=h.iO j v hr;unfold bT at hj;omega
 obtain⟨ys,pB,TD⟩:=NL (c:=c) (id:=bT d) hO;obtain⟨G1,DO,k1,k2,k3,k4,k5⟩:=hA.Oh (id:=bT d) pB nd1 (λ b hb=>hFr b (by simp[hb])) (λ p hp=>by
  rw[Y3 p.1 (a7b p (by simp[hp]))];exact uN p (by simp[hp])) dd1 Is
 rw[e1] at dd2 dd3 uN a7b;obtain⟨G2,lk2,p1,p2,p3,p4,_⟩:=k2.Ct (us:=wH) (cs:=xs) (fp:=KB) (id:=bT d+60) e3 e2 nd2 (k5 KB (λ b hb=>hFr b (by simp[hb])) λ b hb cz=>nd3 b cz b hb rfl) (λ p hp=>by
  rw[k1 p.1];unfold gw;rw[tI (l:=bw (bT d) res) λ q hq e=>dd3 q.1 (List.mem_map.2 ⟨q,hq,rfl⟩) p.1 (List.mem_map.2 ⟨p,hp,rfl⟩) e];simp only;rw[Y3 p.1 (a7b p (by simp[hp]))];exact uN p (by simp[hp])) dd2 (λ j hj=>Is j (by omega))
 have b2s:VR c G2 lk2 w' (kr (bT d) res) x:=TD G2 lk2 (k4.imp λ u y _ hy=>hy.ext p3);have Dl:=bu.put (d:=some d) p2 b2s;have a9I:∀ i,ai.ah { aC:=s1.aC.set d (kr (bT d) res),aK:=bs++(bw (bT d) res++ts)++gG (m.map (·.2)) s1.aK } i=gw bs (gw (bw (bT d) res) (gw ts (λ i=>if i∈m.map (·.2) then none else s1.ah i))) i:=λ i=>by
  show ah (bs++(bw (bT d) res++ts)++gG (m.map (·.2)) s1.aK) i=_;rw[b4x,pq,show ah (bw (bT d) res++ts++gG (m.map (·.2)) s1.aK)=gw (bw (bT d) res) (gw ts (λ i=>if i∈m.map (·.2) then none else s1.ah i)) from funext λ j=>by
   rw[b4x,pq,show ah (ts++gG (m.map (·.2)) s1.aK)=gw ts (λ i=>if i∈m.map (·.2) then none else s1.ah i) from funext λ j=>by
    rw[pq,show ah (gG (m.map (·.2)) s1.aK)=(λ i=>if i∈m.map (·.2) then none else s1.ah i) from funext λ j=>IY _ _ j]]]
 generalize cw:({ aC:=s1.aC.set d (kr (bT d) res),aK:=bs++(bw (bT d) res++ts)++gG (m.map (·.2)) s1.aK }:ai)=s2 at *
 have b2i:∀ i,lk2 i=gw ts (gw (bw (bT d) res) IW) i:=λ i=>by
  rw[p1 i,e1];unfold gw;rw[k1 i];rfl
 have Y4:∀ i,i∉m.map (·.2)->s2.ah i=lk2 i:=λ i aZ=>by
  rw[a9I i,b2i i];unfold gw;rw[a9E i aZ,Y3 i aZ];simp only[if_neg aZ];cases hV:ah (bw (bT d) res) i with
  | none=>rfl
  | some o =>
   rw[tI (l:=ts) λ q hq e=>dd3 i (b3E.2 ⟨(i,o),eV hV,rfl⟩) q.1 (b3E.2 ⟨q,by rw[<-e1];exact hq,rfl⟩) e.symm]
 have eL:∀ i,i∈m.map (·.2)->∃ k dB,k<sk.sh.length/\ah m k=some i/\ah bs i=some (.box dB)/\lk2 i=some (.box (List.replicate dB.length .any))/\s2.ah i=some (.box dB)/\G2.η i = .pointer (some ⟨kP G m k,0,none⟩):=λ i aZ=>by
  obtain⟨k,dB,q1,q2,q3,_⟩:=a0d i aZ;have hA':=a6W i k dB q2 q3;obtain⟨r1,r2,_⟩:=(k3.trans p3).old i _ hA';refine⟨k,dB,q1,q2,q3,r1,?_,by rw[r2];exact (eu k i q2 q1).1⟩;rw[a9I i];unfold gw;rw[q3]
 have eR:∀ i,eJ (lk2 i) (s2.ah i):=λ i=>by
  by_cases aZ:i∈m.map (·.2)
  .obtain⟨k,dB,_,_,_,q4,q5,_⟩:=eL i aZ;rw[q4,q5];exact⟨λ _=>rfl,(λ e τ xs q=>by cases q),(λ q=>by cases q),λ q=>by cases q⟩
  .rw[Y4 i aZ];exact eJ.refl _
 have b0D:=bu.b2A (lk2:=s2.ah) Dl (λ i=>by
  by_cases aZ:i∈m.map (·.2)
  .obtain⟨k,dB,q1,q2,q3,q4,q5,q6⟩:=eL i aZ;obtain⟨j,cs2,l,t,_,j2,j3,j4,j5,_,j7⟩:=e5 _ (eV q3);have:j=k:=JW XY j3 q2;subst this;simp only[aA.box.injEq] at j4;subst j4;refine .inr ⟨_,_,q4,q5,kP G m j,l,t,q6,j5,?_⟩;refine j7 G2 s2.ah (λ b hb=>by rw[p3.S,k3.S];exact hb) (λ j' id Iw=>?_) (p4.imp λ u y _ hy=>hy.mono (λ i _=>⟨eR i,rfl⟩) (λ _ q=>q) (λ _ _=>rfl));obtain⟨k',b3o,g1,g2,_,_,g5,g6⟩:=eL id (B7 Iw);have:j'=k':=JW XY Iw g2;subst this;exact⟨g6,by rw[g5];rfl⟩
  .exact .inl (Y4 i aZ))
 refine⟨G2,?_⟩;unfold Inv;rw[hd,<-cw,show ai.sl { aC:=s1.aC.set d (kr (bT d) res),aK:=bs++(bw (bT d) res++ts)++gG (m.map (·.2)) s1.aK }=jP s1.aC.length s1.sl (some d) (kr (bT d) res) from qG s1.aC d _ _,
  show ({ aC:=s1.aC.set d (kr (bT d) res),aK:=bs++(bw (bT d) res++ts)++gG (m.map (·.2)) s1.aK }:ai).aC.length=s1.aC.length from by simp,cw]
 exact b0D
end
theorem C7(id:Nat)(u:AV):∀ l:List AV,AV.VO id u l=l.map (AV.KC id u)
 | []=>rfl
 | v::r=>congrArg _ (C7 id u r)
section
variable {c:Ctx} {G:Gh} {s:ai} {a:Act} {w w':World}
theorem a7L{lk:Nat->Option aA}{id:Nat}{e:TypeId}{τ:Ty}{xs:List τ.den}(ho:OR c G lk w id (.row e τ xs)){S':Nat->Prop}(hS:∀ b,G.S b->S' b)(hb:∀ b,eb (G.η id)=some b->S' b) :
  Rd w S' (Ty.aP (.slice τ) xs) [G.η id]:=by
 obtain⟨l,h1,h2,h3⟩:=ho;exact Zj h1 h2 h3 hS hb
theorem C1.KC{lk lk':Nat->Option aA}{id:Nat}{e:TypeId}{τ:Ty}{xs:List τ.den}(aZ:lk id=some (.row e τ xs))(ho:OR c G lk w id (.row e τ xs)){S':Nat->Prop}(hS:∀ b,G.S b->S' b)(hb:∀ b,eb (G.η id)=some b->S' b)
  (cr:∀ j,j≠id->eJ (lk j) (lk' j)) {v:AV} {x:Value} (h:C1 c G lk w v x):C1 c ⟨S',G.η,G.φ⟩ lk' w (AV.KC id (.aF ⟨.slice τ,xs⟩) v) x:=by
 have aS:(∀ j,v.refs j=true->j≠id)->C1 c ⟨S',G.η,G.φ⟩ lk' w v x:=λ hr=>h.mono (λ j hj=>⟨cr j (hr j hj),rfl⟩) hS (λ _ _=>rfl);cases v with
 | row i =>
  simp only[AV.KC];split
  .rename_i hi;have hi:=b3x hi;subst hi;refine⟨rfl,?_⟩;rw[h.1];exact a7L ho hS hb
  .rename_i hi;refine aS λ j hj=>?_;simp only[AV.refs] at hj;have:=b3x hj;intro e;subst this e;simp at hi
 | eG i k off =>
  simp only[AV.KC];split
  .trivial
  .rename_i hi;refine aS λ j hj=>?_;simp only[AV.refs] at hj;have:=b3x hj;intro e;subst this e;simp at hi
 | ptr i off =>
  refine aS λ j hj=>?_;simp only[AV.refs] at hj;have:=b3x hj;intro e;subst this e;obtain⟨b,_,_,h3⟩:=h;rw[aZ] at h3;cases h3
 | agg cs=>exact h.elim
 | iP cs=>exact h.elim
 | c9 f cs=>exact h.elim
 | iC v=>exact aS λ j hj=>by cases hj
 | any=>trivial
 | ei=>exact h
 | aF u=>exact aS λ j hj=>by cases hj
 | nil=>exact aS λ j hj=>by cases hj
 | cZ u=>exact aS λ j hj=>by cases hj
 | fn f=>exact aS λ j hj=>by cases hj
 | mp i =>
  refine aS λ j hj=>?_;simp only[AV.refs] at hj;have:=b3x hj;intro e;subst this e;have h3:=h.2.1;rw[aZ] at h3;cases h3
 | aw i =>
  refine aS λ j hj=>?_;simp only[AV.refs] at hj;have:=b3x hj;intro e;subst this e;have h1:=h.1;rw[aZ] at h1;cases h1
 | sub i k o z =>
  refine aS λ j hj=>?_;simp only[AV.refs] at hj;have:=b3x hj;intro e;subst this e;have h1:=h.1;rw[aZ] at h1;cases h1
 | eP i k o z =>
  refine aS λ j hj=>?_;simp only[AV.refs] at hj;have:=b3x hj;intro e;subst this e;have h1:=h.1;rw[aZ] at h1;cases h1
theorem C6(id:Nat)(u:AV):∀ l:List AV,AV.VN id u l=l.map (AV.Hd id u)
 | []=>rfl
 | v::r=>congrArg _ (C6 id u r)
theorem C1.Hd{lk lk':Nat->Option aA}{id:Nat}{τ:Ty}{xs:List τ.den}(aZ:lk id=some (.aw τ xs))(hT:iq w (G.η id) τ xs (G.φ id)){S':Nat->Prop}(hS:∀ b,G.S b->S' b)(hb:∀ b∈G.φ id,S' b)
  (cr:∀ j,j≠id->eJ (lk j) (lk' j)) {v:AV} {x:Value} (h:C1 c G lk w v x):C1 c ⟨S',G.η,G.φ⟩ lk' w (AV.Hd id (.aF ⟨.slice τ,xs⟩) v) x:=by
 have aS:(∀ j,v.refs j=true->j≠id)->C1 c ⟨S',G.η,G.φ⟩ lk' w v x:=λ hr=>h.mono (λ j hj=>⟨cr j (hr j hj),rfl⟩) hS (λ _ _=>rfl);have other:∀ i:Nat,(Nat.beq i id=false\/cx (lk i)=false)->(∀ j,v.refs j=true->Nat.beq i j=true)->C1 c ⟨S',G.η,G.φ⟩ lk' w v x:=λ i hi hr=>aS λ j hj e=>by
  have q:=b3x (hr j hj);subst q;subst e;rcases hi with hi|hi
  .simp at hi
  .rw[aZ] at hi;cases hi
 cases v with
 | aw i =>
  simp only[AV.Hd];split
  .rename_i hi;have hi:=b3x hi;subst hi;obtain⟨_,l,h2,_⟩:=h;exact⟨rfl,hT.rd h2 hb⟩
  .rename_i hi;exact other i (.inl hi) λ j hj=>hj
 | sub i k o z =>
  simp only[AV.Hd];split
  .trivial
  .rename_i hi;exact other i (.inl hi) λ j hj=>hj
 | eP i k o z =>
  simp only[AV.Hd];split
  .trivial
  .rename_i hi;exact other i (.inl hi) λ j hj=>hj
 | row i=>exact other i (.inr (sT h.2.1)) λ j hj=>hj
 | eG i k off =>
  refine other i (.inr ?_) λ j hj=>hj;obtain⟨b,n,cap,e,bf,cR,_,h3,_⟩:=h;rw[h3];rfl
 | ptr i off =>
  refine other i (.inr ?_) λ j hj=>hj;obtain⟨b,_,_,h3⟩:=h;match hl:lk i,h3 with
  | some (.box _),_=>rfl
 | mp i=>exact other i (.inr (LI h.2.1)) λ j hj=>hj
 | agg cs=>exact h.elim
 | iP cs=>exact h.elim
 | c9 f cs=>exact h.elim
 | iC v=>exact aS λ j hj=>by cases hj
 | any=>trivial
 | ei=>exact h
 | aF u=>exact aS λ j hj=>by cases hj
 | nil=>exact aS λ j hj=>by cases hj
 | cZ u=>exact aS λ j hj=>by cases hj
 | fn f=>exact aS λ j hj=>by cases hj
structure Fx(F:AV->AV):Prop where
 aF:∀ v,F (.aF v) = .aF v
 agg:∀ cs,F (.agg cs) = .agg (cs.map F)
 iP:∀ cs,F (.iP cs) = .iP (cs.map F)
 c9:∀ f cs,F (.c9 f cs) = .c9 f (cs.map F)
 any:F .any = .any
 aw:∀ i,(∃ u,F (.aw i) = .aF u)\/F (.aw i) = .aw i
 cZ:∀ v,F (.cZ v) = .cZ v
section
variable {F:AV->AV} {G':Gh} {lk lk':Nat->Option aA} (hF:Fx F) (hC:∀ v x,C1 c G lk w v x->C1 c G' lk' w (F v) x) (hS:∀ b,G.S b->G'.S b)
include hF hC hS
theorem CR.fx{v:AV}{x:Value}(h:CR c G lk w v x):CR c G' lk' w (F v) x:=by
 rcases h.inv with ⟨u,rfl,h1⟩|⟨cs,l,rfl,rfl,h1⟩|h1
 .rw[hF.aF];exact dZ.mono h1 hS (λ _ _=>rfl)
 .rw[hF.agg];exact⟨l,rfl,aT.en _ (h1.imp λ u y _ hy=>hC u y hy)⟩
 .exact (hC _ _ h1).a2s
theorem VR.fx{v:AV}{x:Value}(h:VR c G lk w v x):VR c G' lk' w (F v) x:=by
 have key:C1 c G lk w v x->VR c G' lk' w (F v) x:=λ q=>(hC v x q).fT;cases v with
 | aF u=>rw[hF.aF];exact dZ.mono h hS (λ _ _=>rfl)
 | agg cs =>
  obtain⟨l,rfl,h2⟩:=h;rw[hF.agg];exact⟨l,rfl,aT.en _ (h2.imp λ u y _ hy=>hC u y hy)⟩
 | iP vs =>
  obtain⟨l,rfl,h2⟩:=h;rw[hF.iP];refine⟨l,rfl,aT.en _ (h2.imp λ u y _ hy=>?_)⟩;cases u with
  | any=>rw[hF.any];trivial
  | aF v=>rw[hF.aF];exact dZ.mono hy hS (λ _ _=>rfl)
  | aw i =>
   have q:=hC (.aw i) y hy;rcases hF.aw i with ⟨u,e⟩|e<;>rw[e] at q ⊢
   .exact q.fT
   .exact q
  | agg cs =>
   obtain⟨l,rfl,h2⟩:=hy;rw[hF.agg];exact⟨l,rfl,aT.en _ (h2.imp λ u y _ hy=>hC u y hy)⟩
  | cZ v =>
   have q:=hC (.cZ v) y hy;rw[hF.cZ] at q ⊢;exact q
  | _=>exact hy.elim
 | c9 f cs =>
  obtain⟨l,rfl,h2⟩:=h;rw[hF.c9];exact⟨l,rfl,aT.en _ (h2.imp λ u y _ hy=>CR.fx hF hC hS hy)⟩
 | any=>rw[hF.any];trivial
 | _=>exact key h
end
theorem a8A(id:Nat)(u:TV):Fx (AV.KC id (.aF u)):=⟨λ _=>rfl,λ cs=>by rw[AV.KC,C7],λ cs=>by rw[AV.KC,C7],λ f cs=>by rw[AV.KC,C7],rfl,λ i => .inr rfl,λ _=>rfl⟩
theorem a8z(id:Nat)(u:TV):Fx (AV.Hd id (.aF u)):=⟨λ _=>rfl,λ cs=>by rw[AV.Hd,C6],λ cs=>by rw[AV.Hd,C6],λ f cs=>by rw[AV.Hd,C6],rfl,λ i=>by
 simp only[AV.Hd];split
 .exact .inl ⟨u,rfl⟩
 .exact .inr rfl,λ _=>rfl⟩
def aA.fe(F:AV->AV):aA->aA
 | .box cs => .box (cs.map F)
 | o=>o
theorem Inv.fix(h:Inv c G s a w)(id:Nat)(F:AV->AV)(hF:Fx F)(B:Nat->Prop)(hB:∀ b,B b->(c.w0.heap.size<=b\/c.X b)/\b<w.heap.size/\(∀ i o,i≠id->s.ah i=some o->eb (G.η i)≠some b)/\∀ i τ xs,i≠id->s.ah i=some (.aw τ xs)->b∉G.φ i)
  (hC:∀ lk',(∀ j,j≠id->eJ (s.ah j) (lk' j))->∀ v x,C1 c G s.ah w v x->C1 c ⟨λ b=>G.S b\/B b,G.η,G.φ⟩ lk' w (F v) x) :
  Inv c ⟨λ b=>G.S b\/B b,G.η,G.φ⟩ { aC:=s.aC.map F,aK:=(bR id s.aK).map λ p=>(p.1,p.2.fe F) } a w:=by
 have hS:∀ b,G.S b->G.S b\/B b:=λ b hb => .inl hb;have cr:∀ i,ai.ah { aC:=s.aC.map F,aK:=(bR id s.aK).map λ p=>(p.1,p.2.fe F) } i=(if i=id then none else s.ah i).map (aA.fe F):=by
  intro i;show ah ((bR id s.aK).map _) i=_;rw[J0,eH];rfl
 have eR:∀ j,j≠id->eJ (s.ah j) (ai.ah { aC:=s.aC.map F,aK:=(bR id s.aK).map λ p=>(p.1,p.2.fe F) } j):=by
  intro j hj;rw[cr,b3H hj];refine⟨λ hh=>?_,λ e τ xs hh=>⟨e,xs,by rw[hh];rfl,b4h _⟩,λ hh=>?_,λ hh=>?_⟩
  .match hq:s.ah j,hh with
   | some (.box cs),_=>rfl
  .match hq:s.ah j,hh with
   | some (.aw τ xs),_=>rfl
  .match hq:s.ah j,hh with
   | some (.map m),_=>rfl
 have hC:=hC _ eR;have hinv:∀ i o,ai.ah { aC:=s.aC.map F,aK:=(bR id s.aK).map λ p=>(p.1,p.2.fe F) } i=some o->i≠id/\∃ o',s.ah i=some o'/\o=o'.fe F:=λ i o cF=>by
  rw[cr] at cF;simp only[b4t] at cF;obtain⟨o',cF,rfl⟩:=cF;by_cases hi:i=id
  .simp[hi] at cF
  .rw[b3H hi] at cF;exact⟨hi,o',cF,rfl⟩
 exact {
  defers:=h.defers
  size:=by rw[h.size];simp
  aS:=h.aS
  jE:=h.jE
  ez:=λ b hbl hx=>⟨λ hh=>by
   rcases hh with hh|hh
   .exact (h.ez b hbl hx).1 hh
   .exact (hB b hh).1.elim (λ q=>by omega) (λ q=>absurd q hx),λ hh => .inl ((h.ez b hbl hx).2 hh)⟩
  sX:=λ b hh => .inl (h.sX b hh)
  dE:=λ b hh=>by
   rcases hh with hh|hh
   .exact h.dE b hh
   .exact (hB b hh).2.1
  aC:=λ i=>by
   have he:ai.sl { aC:=s.aC.map F,aK:=(bR id s.aK).map λ p=>(p.1,p.2.fe F) } i=F (s.sl i):=by
    simp only[ai.sl,b3N,b5k];cases s.aC[i]? with
    | none=>exact hF.any.symm
    | some v=>rfl
   rw[he];exact VR.fx hF hC hS (h.aC i)
  aK:=λ i o cF=>by
   obtain⟨hi,o',eE,rfl⟩:=hinv i o cF;have cO:=h.aK i o' eE;cases o' with
   | box cs =>
    obtain⟨b,l,t,k1,k2,k3⟩:=cO;exact⟨b,l,t,k1,k2,aT.en _ (k3.imp λ u y _ hy=>hC u y hy)⟩
   | row e2 kL ng =>
    obtain⟨l,k1,k2,k3⟩:=cO;exact⟨l,k1,dT.aS hS (λ _ _=>rfl) _ k2,k3⟩
   | aw kL ng=>trivial
   | map m=>exact cO
  place:=λ i o b cF iD=>by
   obtain⟨hi,o',eE,rfl⟩:=hinv i o cF;obtain⟨q1,q2,q3⟩:=h.place i o' b eE iD;exact⟨q1,λ hs=>hs.elim q2 λ hs=>(hB b hs).2.2.1 i o' hi eE iD,q3⟩
  apart:=λ i j o o2 b cF Na p7 nA=>by
   obtain⟨_,o',eE,rfl⟩:=hinv i o cF;obtain⟨_,o2',b2f,rfl⟩:=hinv j o2 Na;exact h.apart i j o' o2' b eE b2f p7 nA
  aR:=by
   have hold:∀ j kL ng,ai.ah { aC:=s.aC.map F,aK:=(bR id s.aK).map λ p=>(p.1,p.2.fe F) } j=some (.aw kL ng)->j≠id/\s.ah j=some (.aw kL ng):=λ j kL ng k=>by
    obtain⟨hj,o',Na,e⟩:=hinv j _ k;refine⟨hj,?_⟩;match o',e with
    | .aw ..,e=>rw[Na,e];rfl
    | .box _,e=>cases e
    | .row ..,e=>cases e
    | .map _,e=>cases e
   exact {
    tr:=λ j kL ng k=>h.aR.tr j kL ng (hold j kL ng k).2
    nd:=λ j kL ng k=>h.aR.nd j kL ng (hold j kL ng k).2
    pl:=λ j kL ng b k cz=>by
     obtain⟨hj,k⟩:=hold j kL ng k;obtain⟨q1,q2,q3,q4⟩:=h.aR.pl j kL ng b k cz;refine⟨q1,λ hs=>hs.elim q2 λ hs=>(hB b hs).2.2.2 j kL ng hj k cz,q3,λ i o cF=>?_⟩;obtain⟨_,o',eE,rfl⟩:=hinv i o cF;exact q4 i o' eE
    ap:=λ j j' kL b0b ng b0a b k k'=>h.aR.ap j j' kL b0b ng b0a b (hold j kL ng k).2 (hold j' b0b b0a k').2 }
  root:=λ i v hr ht=>h.root i v hr (by
   match hl:ai.ah { aC:=s.aC.map F,aK:=(bR id s.aK).map λ p=>(p.1,p.2.fe F) } i,ht with
   | some (.aw ..),_ =>
    obtain⟨_,o',cF,e⟩:=hinv i _ hl;match o',e with
    | .aw ..,e=>rw[cF];rfl
    | .box _,e=>cases e
    | .row ..,e=>cases e
    | .map _,e=>cases e)
  iO:=h.iO
  du:=λ i v hr ht=>h.du i v hr (by
   match hl:ai.ah { aC:=s.aC.map F,aK:=(bR id s.aK).map λ p=>(p.1,p.2.fe F) } i,ht with
   | some (.box _),_ =>
    obtain⟨_,o',cF,e⟩:=hinv i _ hl;match o',e with
    | .box _,e=>rw[cF];rfl
    | .aw ..,e=>cases e
    | .row ..,e=>cases e
    | .map _,e=>cases e)
  fc:=h.fc }
theorem a5s(id:Nat)(u:AV)(o:aA):o.KC id u=o.fe (AV.KC id u):=by
 cases o<;>simp[aA.KC,aA.fe,C7]
theorem a5r(id:Nat)(u:AV)(o:aA):o.Hd id u=o.fe (AV.Hd id u):=by
 cases o<;>simp[aA.Hd,aA.fe,C6]
theorem Inv.freeze(h:Inv c G s a w)(id:Nat):∃ G',Inv c G' (s.freeze id) a w:=by
 unfold ai.freeze;split
 .rename_i e τ xs aZ;have ho:=h.aK id _ aZ;rw[C7];simp only[a5s];exact⟨_,h.fix id _ (a8A id _) (λ b=>eb (G.η id)=some b) (λ b hb=>by
   obtain⟨q1,_,q3⟩:=h.place id _ b aZ hb;exact⟨q1,q3,λ i o hi cF p7=>hi (h.apart i id o _ b cF aZ p7 hb),λ i τ xs _ k q=>(h.aR.pl i τ xs b k q).2.2.2 id _ aZ hb⟩)
   λ lk' hs v x hv=>C1.KC aZ ho (λ _ hb => .inl hb) (λ _ hb => .inr hb) hs hv⟩
 .rename_i τ xs aZ;rw[C6];simp only[a5r];exact⟨_,h.fix id _ (a8z id _) (λ b=>b∈G.φ id) (λ b hb=>by
   obtain⟨q1,_,q3,q4⟩:=h.aR.pl id _ _ b aZ hb;exact⟨q1,q3,λ i o _ cF=>q4 i o cF,λ i τ xs hi k q=>hi (h.aR.ap i id _ _ _ _ b k aZ q hb)⟩)
   λ lk' hs v x hv=>C1.Hd aZ (h.aR.tr id _ _ aZ) (λ _ hb => .inl hb) (λ _ hb => .inr hb) hs hv⟩
 .exact⟨G,h⟩
theorem Inv.Ik:∀ (l:List Nat) {G:Gh} {s:ai},Inv c G s a w->∃ G',Inv c G' (l.foldl ai.freeze s) a w
 | [],G,s,h=>⟨G,h⟩
 | i::r,G,s,h=>by
  obtain⟨G',h'⟩:=h.freeze i;exact Inv.Ik r h'
theorem JY{lk:Nat->Option aA}{v:AV}{x:Value}{K:Prop}(hv:VR c G lk w v x)(h:known v K):K:=by
 unfold known at h;split at h
 .rename_i n;obtain⟨_,h1,h2⟩:=hv;refine h ⟨?_,?_⟩
  .have:=h1;simp only[IntKind.min,IntKind.signed,IntKind.bits,b5u] at this;omega
  .have:=h2;simp only[IntKind.max,IntKind.signed,IntKind.bits,b5u] at this;omega
 .rename_i t xs;obtain⟨_,_,_,_,h1,_⟩:=jN hv;exact h h1
 .rename_i xs;obtain⟨s,_,h2,h3⟩:=hv;subst h2;exact h (by rw[b4A];exact h3)
 .exact h
theorem b0e{l:List Operand}{u v:AV}{ev:Operand->AV}(h:l.map ev=[u,v]){lk:Nat->Option aA}(cU:∀ x,VR c G lk w (ev x) (a.eval x)):∃ x y,l.map a.eval=[x,y]/\VR c G lk w u x/\VR c G lk w v y:=by
 have:=aT.lC cU l;rw[h] at this;match hl:l.map a.eval,this with
 | [x,y],hh=>exact⟨x,y,rfl,hh.1,hh.2.1⟩
theorem LH(hE:bE c.P c.E)(h:Inv c G s a w){o:Oper}{T:TypeId}{m k x:Operand}(bx:o.op = .mapUpdate T m k x\/o.op = .insert T m k x){vc:Vc}{s':ai}(he:UF c.E s o.dst T m k x=some (vc,s'))(er:vc.ok){Q:Exit->Act->World->Prop} :
  o.wp c.P a w (λ a' w'=>∃ G',Inv c G' s' a' w') Q:=by
 cases he
theorem a2T(hE:bE c.P c.E)(h:Inv c G s a w){o:Oper}{vc:Vc}{s':ai}(he:ZX c.E s o=some (vc,s'))(er:vc.ok){Q:Exit->Act->World->Prop} :
  o.wp c.P a w (λ a' w'=>∃ G',Inv c G' s' a' w') Q:=by
 unfold ZX at he;split at he
 .rename_i bx;exact LH hE h (.inl bx) he er
 .rename_i bx;exact LH hE h (.inr bx) he er
 .rename_i T ad x bx;split at he
  .rename_i τ r hT;have hp:=br h ad;have hx:=br h x;have fin:∀ w' G1 (s1:ai),(Instr.storeAt T (a.eval ad) (a.eval x)).run c.P w = .ok () w'->Inv c G1 s1 a w'->s'=s1.put o.dst .any->o.wp c.P a w (λ a' w'=>∃ G',Inv c G' s' a' w') Q:=by
    intro w' G1 s1 hr hi hs;unfold Oper.wp;have:(execOp a.eval o).run c.P w = .ok .skip w':=by simp only[execOp,bx,Sem.run_bind,hr,Result.andThen_ok,Sem.run_pure]
    rw[this];refine⟨G1,?_⟩;rw[hs];exact Inv.put hi trivial
   split at he
   .rename_i id off cU;split at he
    .rename_i cs aZ;split at he
     .rename_i new qU;split at he
      .rename_i dB Dl;simp only[b3t,b3w] at he;obtain⟨rfl,rfl⟩:=he;rw[cU] at hp;obtain⟨w',k1,k2⟩:=h.store hE hT aZ hp ⟨_,qU,hx⟩ Dl;exact fin w' _ _ k1 k2 rfl
      .cases he
     .cases he
    .cases he
   .rename_i id i cU;split at he
    .rename_i e' bf xs aZ;split at he
     .rename_i y jr hy;have jr:=b4l jr;subst jr;simp only[b3t,b3w] at he;obtain⟨rfl,rfl⟩:=he;rw[cU] at hp;obtain⟨w',k1,k2⟩:=h.a5V hE hT aZ hp hx hy;exact fin w' _ _ k1 k2 rfl
     .cases he
    .cases he
   .cases he
  .cases he
 .rename_i cl bx;split at he
  .rename_i gQ;split at he
   .rename_i d T T' hd hTs;split at he
    .rename_i τ b e VT hT;have VT:=b3x VT;subst VT;split at he
     .rename_i id y dw;split at he
      .rename_i e' bf xs ys aZ hy;split at he
       .rename_i cR Dh kc;have Dh:=b3x Dh;have e1:=TV.aW kc;cases e1;subst Dh;simp only[b3t,b3w] at he;obtain⟨rfl,rfl⟩:=he;obtain⟨x,z,m1,m2,m3⟩:=b0e (a:=a) (c:=c) (G:=G) (w:=w) dw (br h);obtain⟨v',w',G',k1,k2⟩:=h.append hE hT (d:=d) aZ m2 m3 hy er o.type;have Pr:cl.argTypes = #[T,T]:=by rw[<-b4E (xs:=cl.argTypes),hTs]
        have IA:cl.args.map a.eval = #[x,z]:=by rw[<-b4E (xs:=cl.args.map a.eval),b5y,m1]
        unfold Oper.wp;have:(execOp a.eval o).run c.P w = .ok (.value v') w':=by
         simp[execOp,bx,resolve,gQ,invoke,builtin,Pr,IA,k1]
        rw[this];refine⟨G',?_⟩;rw[hd];exact k2
       .cases he
      .cases he
     .cases he
    .cases he
   .cases he
  .cases he
 .cases he
theorem a3w(hE:bE c.P c.E)(h:Inv c G s a w){o0:Oper}{vc:Vc}{v:AV}{ob:Option aA}(he:nop c.E s o0=some (vc,v,ob))(er:vc.ok){Q:Exit->Act->World->Prop} :
  o0.wp c.P a w (Ad c G s.sl s.aC.length s.ah o0.dst a w v ob) Q:=by
 unfold nop at he;split at he;case h_2=>cases he
 case h_1 cl bx =>
 split at he;case h_2=>cases he
 case h_1 f gQ =>
 split at he;case h_2=>cases he
 case h_1 d hd =>
 split at he;case h_2=>cases he
 case h_1 Z9 has =>
 have key:∀ (T:Nat->Prop),(∀ x∈cl.args.toList.map a.eval,∀ q:Addr,x = .pointer (some q)->T q.block)->∀ pre o,c.E.WX f Z9=some (pre,o)->pre.ok->o0.wp c.P a w (λ a' w'=>∃ x S',a'=a.put o0.dst x/\bu c ⟨S',G.η,G.φ⟩ s.sl s.aC.length s.ah a w' /\
   (∀ b,G.S b->S' b)/\(∀ b,eb x=some b->w.heap.size<=b/\b<w'.heap.size/\¬ S' b)/\a6h w' S' T x o) Q:=λ T hT pre o hc er=>by
  obtain⟨nF,ig⟩:=hE.WX f Z9 pre o hc er;unfold Oper.wp;rw[gR bx gQ rfl nF];simp only[Oper.upon];refine (ig w G.S T _ h.sOk hT (iu hE h (Fl (λ _ _ h=>h)) (λ _ h=>h) (λ τ v x y h1 h2=>HH Fm Br h1 h2) has (aT.lC (br h) _))).mono ?_;rintro e w' ⟨x,S',rfl,hk,hS1,hS2,hb,hx⟩;exact⟨x,S',rfl,bu.grow h hk hS1 hS2,λ b hb=>(hS1 b (h.dE b hb)).2 hb,hb,hx⟩
 split at he;case h_4=>cases he
 case h_3 pre l hc =>
  split at he;case h_2=>cases he
  case h_1 cw =>
  simp only[b3t,b3w] at he;obtain⟨rfl,rfl,rfl⟩:=he;refine b5d ?_ (key (St c G.S) (λ x hx q hq=>?_) _ _ hc er)
  .rintro a' w' ⟨x,S',rfl,hI,hS,hb,ys,rfl,Ng⟩;refine⟨_,S',rfl,hI,ys.toArray.toList,rfl,aT.en _ (Ng.imp λ r y _ hy=>?_)⟩;obtain⟨bb,v⟩:=r;cases bb with
   | true =>
    obtain⟨b,o,cs,h1,h2,h3,h4⟩:=hy;exact⟨b,o,cs,h1,h2.elim .inl λ h2=>h2.imp (hS b) id,h3,h4⟩
   | false=>exact hy
  .obtain⟨y,hy,rfl⟩:=b3E.1 hx;have h1:=b4r.1 cw _ (b3E.2 ⟨y,hy,rfl⟩);have h2:=br h y;generalize s.eval y=v at h1 h2;rw[hq] at h2;cases v with
   | cZ u=>obtain⟨b,o,cs,e,h3,_⟩:=h2;cases e;exact h3
   | aF u =>
    obtain⟨τ,z⟩:=u;cases τ with
    | int k=>obtain⟨e,_⟩:=h2;cases e
    | bool=>have e:[Value.pointer (some q)]=[.bool z]:=h2;cases e
    | str=>obtain⟨_,e,_⟩:=h2;cases e
    | slice t=>obtain⟨_,_,e,_⟩:=h2;cases e
    | st s=>obtain⟨_,e,_⟩:=h2;cases e
    | mv t=>cases z with
     | none=>obtain⟨_,_,_,e⟩:=h2;cases e
     | some z=>obtain⟨_,_,e,_⟩:=h2;cases e
    | ptr=>cases h1
   | _=>cases h1
 case h_1 pre cells hc =>
  simp only[b3t,b3w] at he;obtain⟨rfl,rfl,rfl⟩:=he;refine b5d ?_ (key (λ _=>True) (λ _ _ _ _=>trivial) _ _ hc er);rintro a' w' ⟨x,S',rfl,hI,_,hb,b,l,t,rfl,hh,ka⟩;exact⟨_,S',rfl,hI,⟨d,hd,rfl⟩,⟨b,l,t,rfl,hh,aT.en _ (ka.imp λ u y _ hy=>hy)⟩,hb⟩
 case h_2 pre e τ xs hc =>
  simp only[b3t,b3w] at he;obtain⟨rfl,rfl,rfl⟩:=he;refine b5d ?_ (key (λ _=>True) (λ _ _ _ _=>trivial) _ _ hc er);rintro a' w' ⟨x,S',rfl,hI,_,hb,l,h1,h2,h3⟩;exact⟨_,S',rfl,hI,⟨d,hd,rfl⟩,⟨l,h1,h2,h3⟩,hb⟩
theorem Qt(hE:bE c.P c.E)(h:Inv c G s a w){o:Oper}{K:ai->Prop}(hr:kZ c.E o K s){Q:Exit->Act->World->Prop} :
  o.wp c.P a w (λ a' w'=>∃ G' s',Inv c G' s' a' w'/\K s') Q:=by
 unfold kZ at hr;split at hr
 .exact hr.elim
 rename_i M4;obtain⟨G1,h1⟩:=h.Ik (kN c.E s o);generalize (kN c.E s o).foldl ai.freeze s=s1 at *
 simp only at hr;split at hr
 .rename_i vc s' he;exact b5d (λ a' w' ⟨G',hg⟩=>⟨G',s',hg,(Vc.jR hr).2⟩) (a3R hE h1 he (Vc.jR hr).1)
 split at hr
 .rename_i vc s' he;exact b5d (λ a' w' ⟨G',hg⟩=>⟨G',s',hg,(Vc.jR hr).2⟩) (a2K hE h1 he (Vc.jR hr).1)
 split at hr
 .rename_i vc s' he;exact b5d (λ a' w' ⟨G',hg⟩=>⟨G',s',hg,(Vc.jR hr).2⟩) (a2T hE h1 he (Vc.jR hr).1)
 .split at hr
  .rename_i vc s' he;exact b5d (λ a' w' ⟨G',hg⟩=>⟨G',s',hg,(Vc.jR hr).2⟩) (a3G hE h1 he (Vc.jR hr).1)
  split at hr
  .rename_i vc v ob he;refine b5d ?_ (a3w hE h1 he (Vc.jR hr).1);intro a' w' hd;obtain⟨G',hl⟩:=WE h1 M4 hd;exact⟨G',_,hl,(Vc.jR hr).2⟩
  .split at hr
   .rename_i vc v ob hq;obtain⟨er,hk⟩:=Vc.jR hr;refine b5d ?_ (NO hE h1 (λ _ _ h=>h) (br h1) hq er);intro a' w' hd;obtain⟨G',hl⟩:=WE h1 M4 hd;refine⟨G',_,hl,?_⟩;split at hk
    .obtain⟨x,S',_,_,hx⟩:=hd;cases ob with
     | none=>exact JY hx hk
     | some ob =>
      obtain⟨hL,_⟩:=hx;cases ob with
      | box cs=>obtain⟨i,_,rfl⟩:=hL;exact hk
      | row e τ xs=>obtain⟨i,_,rfl⟩:=hL;exact hk
      | aw τ xs=>exact hL.elim
      | map m=>obtain⟨i,_,rfl⟩:=hL;exact hk
    .exact hk
   .exact hr.elim
theorem a3a{t:Array Value}{i:Nat}{b:Bool}(h:t.getD i undef = .bool b):t[i]?=some (.bool b):=by
 rw[b4s] at h;cases hx:t[i]? with
 | none=>rw[hx] at h;simp[undef] at h
 | some v=>rw[hx] at h;simpa using h
theorem M1{ops:Array Oper}{g t:Nat}{b:Bool}(ht:yg ops g=some t)(hx:VR c G s.ah w (.aF ⟨.bool,b⟩) (a.eval (.tmp t))):yielded ops a.tmps g=some b:=by
 have hb:[a.eval (.tmp t)]=[.bool b]:=hx;simp only[List.cons.injEq,and_true] at hb;have:=a3a hb;unfold yielded;rw[show (ops[g]?).bind (·.dst)=some t from ht];simp[this]
theorem Ir{ops:Array Oper}{g t:Nat}(ht:yg ops g=some t)(hx:VR c G s.ah w .ei (a.eval (.tmp t))):yielded ops a.tmps g=none:=by
 have hb:a.eval (.tmp t)=undef:=hx;have hb:a.tmps.getD t undef=undef:=hb;unfold yielded;rw[show (ops[g]?).bind (·.dst)=some t from ht];rw[Array.getD_eq_getD_getElem?] at hb;cases hx:a.tmps[t]? with
 | none=>simp[hx]
 | some v =>
  rw[hx] at hb;have hv:v=undef:=hb;subst hv;simp[hx,undef]
theorem Inv.slot(h:Inv c G s a w)(t:Nat){b b':Bool}(he:s.eval (.tmp t) = .aF ⟨.bool,b⟩)(hb:b=b'):Inv c G (s.put (some t) (.aF ⟨.bool,b'⟩)) a w:=by
 have:s.put (some t) (.aF ⟨.bool,b'⟩)=s\/(s.put (some t) (.aF ⟨.bool,b'⟩)).sl=s.sl:=by
  right;rw[a4Z];funext i;unfold jP;split
  .rename_i hi;obtain⟨h1,h2⟩:=hi;simp only[b3t] at h1;subst h1;rw[<-hb,<-he];rfl
  .rfl
 rcases this with e|e
 .rw[e];exact h
 .unfold Inv;rw[e,Zb,SY];exact h
theorem Ey(hE:bE c.P c.E){ops:Array Oper}{Q:ai->Prop}{o:Oper}{r:List Oper}{kn:List (Nat×Bool)}(h:Inv c G s a w)(hr:ft c.E ops (o::r) kn Q s) :
  if Region.wanted o (yielded ops a.tmps)=true then ∀ Q':Exit->Act->World->Prop,o.wp c.P a w (λ a' w'=>∃ G' s' oM,Inv c G' s' a' w'/\ft c.E ops r oM Q s') Q'
  else ∃ G' s' oM,Inv c G' s' (a.put o.dst undef) w/\ft c.E ops r oM Q s':=by
 have run:∀ (kn:List (Nat×Bool)) (s:ai),Inv c G s a w->kZ c.E o (ft c.E ops r kn Q) s->∀ Q':Exit->Act->World->Prop,o.wp c.P a w (λ a' w'=>∃ G' s' oM,Inv c G' s' a' w'/\ft c.E ops r oM Q s') Q':=λ kn s hs cG Q' =>
  b5d (λ a' w' ⟨G',s',h1,h2⟩=>⟨G',s',kn,h1,h2⟩) (Qt hE hs cG)
 have skip:∀ (kn:List (Nat×Bool)) (s:ai),Inv c G s a w->ft c.E ops r kn Q (s.put o.dst .ei)->∃ G' s' oM,Inv c G' s' (a.put o.dst undef) w/\ft c.E ops r oM Q s':=λ kn s hs hk =>
  ⟨G,_,kn,Inv.put (v := .ei) hs rfl,hk⟩
 simp only[ft] at hr;split at hr
 .rename_i hg;have hw:Region.wanted o (yielded ops a.tmps)=true:=by simp[Region.wanted,hg]
  rw[b4d hw];exact run kn s h hr
 .rename_i g want hg;split at hr
  .exact hr.elim
  .rename_i t ht;split at hr
   .rename_i b hb;split at hr
    .rename_i b' cU;have hx:=br h (.tmp t);rw[cU] at hx;have hy:=M1 (s:=s) ht hx;split at hr
     .rename_i iD M3;have iD:=eq_of_beq iD;subst iD;have hw:Region.wanted o (yielded ops a.tmps)=true:=by simp[Region.wanted,hg,hy];simpa using M3
      rw[b4d hw];exact run kn s h hr
     .rename_i iD M3;have iD:=eq_of_beq iD;subst iD;have hw:Region.wanted o (yielded ops a.tmps)=false:=by simp[Region.wanted,hg,hy];simpa using M3
      rw[hw];exact skip kn s h hr
     .exact hr.elim
    .rename_i cU;have hx:=br h (.tmp t);rw[cU] at hx;have hy:=Ir (s:=s) ht hx;have hw:Region.wanted o (yielded ops a.tmps)=false:=by simp[Region.wanted,hg,hy]
     rw[hw];exact skip kn s h hr
    .exact hr.elim
   .split at hr
    .rename_i b cU;have hx:=br h (.tmp t);rw[cU] at hx;have hy:=M1 (s:=s) ht hx;by_cases M3:b=want
     .have hw:Region.wanted o (yielded ops a.tmps)=true:=by simp[Region.wanted,hg,hy,M3]
      rw[b4d hw];exact run _ _ (h.slot t cU M3) (hr.1 M3)
     .have XR:b = !want:=by cases b<;>cases want<;>simp_all
      have hw:Region.wanted o (yielded ops a.tmps)=false:=by simp[Region.wanted,hg,hy,XR]
      rw[hw];exact skip _ _ (h.slot t cU XR) (hr.2 XR)
    .rename_i cU;have hx:=br h (.tmp t);rw[cU] at hx;have hy:=Ir (s:=s) ht hx;have hw:Region.wanted o (yielded ops a.tmps)=false:=by simp[Region.wanted,hg,hy]
     rw[hw];exact skip kn s h hr
    .exact hr.elim
theorem BC(hE:bE c.P c.E){ops:Array Oper}{Q:ai->Prop}{Q':Exit->Act->World->Prop}(hQ:∀ G s a w,Inv c G s a w->Q s->Q' .normal a w) :
  ∀ (r:List Oper) (i:Nat) (kn:List (Nat×Bool)) (G:Gh) (s:ai) (a:Act) (w:World),(∀ j o,r[j]?=some o->ops[i+j]?=some o)->Inv c G s a w->ft c.E ops r kn Q s->wpOps c.P ops Q' (List.range' i r.length) a w
 | [],i,kn,G,s,a,w,_,h,hr=>hQ G s a w h hr
 | o::r,i,kn,G,s,a,w,a9O,h,hr=>by
  have ho:ops[i]?=some o:=a9O 0 o rfl;have ym:∀ j p,r[j]?=some p->ops[i+1+j]?=some p:=λ j p hj=>by
   have:=a9O (j+1) p (by simpa using hj);rwa [show i+(j+1)=i+1+j by omega] at this
  simp only[b3G,List.range'_succ,wpOps,ho];have kV:=Ey hE h hr;split at kV
  .rename_i hw;rw[b4d hw];exact .inl (b5d (λ a' w' ⟨G',s',oM,h1,h2⟩=>BC hE hQ r (i+1) oM G' s' a' w' ym h1 h2) (kV Q'))
  .rename_i hw;rw[b3H hw];obtain⟨G',s',oM,h1,h2⟩:=kV;exact BC hE hQ r (i+1) oM G' s' _ w ym h1 h2
end
structure QQ where
 Lh:Bool
 v:AV
 ob:Option aA
def GV(want Lh:Bool):AV->Prop
 | .aF ⟨.bool,b⟩=>Lh=(b == want)
 | .ei=>Lh=false
 | _=>False
def gj(l:List Oper)(bits:Nat)(s:ai)(o:Oper)(Lh:Bool):Prop :=
 match o.guard with
 | none=>Lh=true
 | some (g,want)=>∃ t v,cE l g=some t/\Nat.testBit bits g=true/\s.eval (.tmp t)=v/\GV want Lh v
def UR(E:Env)(l:List Oper)(m bits:Nat)(s:ai)(o:Oper)(e:QQ):Prop :=
 gj l bits s o e.Lh/\(e.Lh=true->∃ vc:Vc,NN E (Ua l m bits s) (XM l m bits s) o=some (vc,e.v,e.ob)/\vc.ok)/\(e.Lh=false->e.v = .ei/\e.ob=none)
def Trace(E:Env)(l:List Oper)(m:Nat)(ck:List Nat):Nat->List Oper->List QQ->ai->ai->Prop
 | _,[],[],s,s'=>s=s'
 | i,o::r,e::es,s,s'=>UR E l m (ck.getD i 0) s o e/\Trace E l m ck (i+1) r es (s.jw o.dst e.v e.ob) s'
 | _,_,_,_,_=>False
def Zq{s:ai}{t:Nat}{v:AV}(h:s.eval (.tmp t)=v)(hv:v ≠ .any):s.put (some t) v=s:=by
 have bK:t<s.aC.length:=by
  rcases b4y t s.aC.length with hl|hl
  .exact hl
  .simp only[ai.eval,b3N,b5A hl,Option.getD_none] at h;exact absurd h.symm hv
 simp only[ai.eval,b3N,b3Z bK,b6e] at h;simp only[ai.put];congr 1;subst h;exact b7h bK
def RQ(s:ai)(d:Option Nat):s.jw d .ei none=s.put d .ei:=by cases d<;>rfl
def sI{E:Env}{l:List Oper}{m:Nat}{ck:List Nat}{Q:List (Nat×Bool)->ai->Prop}:∀ {r:List Oper} {i:Nat} {kn:List (Nat×Bool)} {s:ai},mD E l m ck i r kn Q s ->
  ∃ es oM s',Trace E l m ck i r es s s'/\Q oM s'
 | [],i,kn,s,h=>⟨[],kn,s,rfl,h⟩
 | o::r,i,kn,s,h=>by
  have run:∀ kn,gj l (ck.getD i 0) s o true->Qu E l m (ck.getD i 0) o (mD E l m ck (i+1) r kn Q) s->∃ es oM s',Trace E l m ck i (o::r) es s s'/\Q oM s':=by
   intro kn hg hr;unfold Qu at hr;split at hr
   .split at hr
    .rename_i vc v ob hq;obtain⟨es,oM,s',h1,h2⟩:=sI (Vc.jR hr).2;exact⟨⟨true,v,ob⟩::es,oM,s',⟨⟨hg,λ _=>⟨vc,hq,(Vc.jR hr).1⟩,λ h=>(by cases h)⟩,h1⟩,h2⟩
    .exact hr.elim
   .exact hr.elim
  have skip:∀ kn,gj l (ck.getD i 0) s o false->mD E l m ck (i+1) r kn Q (s.put o.dst .ei)->∃ es oM s',Trace E l m ck i (o::r) es s s'/\Q oM s':=by
   intro kn hg hr;obtain⟨es,oM,s',h1,h2⟩:=sI hr;exact⟨⟨false, .ei,none⟩::es,oM,s',⟨⟨hg,λ h=>(by cases h),λ _=>⟨rfl,rfl⟩⟩,by rw[RQ];exact h1⟩,h2⟩
  simp only[mD] at h;split at h
  .rename_i hg;exact run kn (by simp[gj,hg]) h
  .rename_i g want hg;split at h
   .rename_i t ht Y0;split at h
    .rename_i b hb;split at h
     .rename_i b' cU;split at h
      .rename_i iD M3;have iD:=eq_of_beq iD;subst iD;exact run kn (by simp only[gj,hg];exact⟨t,_,ht,Y0,cU,M3.symm⟩) h
      .rename_i iD M3;have iD:=eq_of_beq iD;subst iD;exact skip kn (by simp only[gj,hg];exact⟨t,_,ht,Y0,cU,M3.symm⟩) h
      .exact h.elim
     .rename_i cU;exact skip kn (by simp only[gj,hg];exact⟨t,_,ht,Y0,cU,rfl⟩) h
     .exact h.elim
    .split at h
     .rename_i b cU;by_cases M3:b=want
      .have h':=h.1 M3;subst M3;rw[Zq cU (by simp)] at h';exact run _ (by simp only[gj,hg];exact⟨t,_,ht,Y0,cU,by simp[GV]⟩) h'
      .have XR:b = !want:=by cases b<;>cases want<;>simp_all
       have h':=h.2 XR;rw[<-XR,Zq cU (by simp)] at h';exact skip _ (by simp only[gj,hg];exact⟨t,_,ht,Y0,cU,by simpa [GV] using M3⟩) h'
     .rename_i cU;exact skip kn (by simp only[gj,hg];exact⟨t,_,ht,Y0,cU,rfl⟩) h
     .exact h.elim
   .exact h.elim
def dR(l:List Oper)(es:List QQ)(s0:ai)(π:List Nat):ai :=
 π.foldl (λ s k=>s.jw (cE l k) (es.getD k ⟨false, .any,none⟩).v (es.getD k ⟨false, .any,none⟩).ob) s0
def RR(s:ai)(d:Option Nat)(v:AV)(o:Option aA):(s.jw d v o).aC.length=s.aC.length:=by cases d<;>simp[ai.jw]
def PZ(l:List Oper)(es:List QQ):∀ (π:List Nat) (s0:ai),(dR l es s0 π).aC.length=s0.aC.length
 | [],_=>rfl
 | k::π,s0=>by
  show (dR l es (s0.jw _ _ _) π).aC.length=_;rw[PZ l es π,RR]
def Qy(s:ai)(d:Option Nat)(v:AV)(o:Option aA):(s.jw d v o).sl=jP s.aC.length s.sl d v:=by
 cases d with
 | none=>funext i;simp[ai.jw,jP]
 | some d=>exact qG s.aC d v _
def Ff(s:ai)(d:Option Nat)(v:AV)(o:Option aA)(j:Nat):(s.jw d v o).ah j=if d=some j then (match o with
  | some o=>some o
  | none=>s.ah j) else s.ah j:=by
 cases d with
 | none=>simp[ai.jw]
 | some d =>
  cases o with
  | none =>
   simp only[ai.jw,ai.ah,ite_self]
  | some o =>
   show ah ((d,o)::s.aK) j=_;rw[dC];by_cases h:j=d
   .subst h;simp
   .have:¬ (some d=some j):=by simp;exact λ e=>h e.symm
    rw[b3H h,b3H this];rfl
def gF(l:List Oper)(es:List QQ)(t:Nat):∀ (π:List Nat) (s0:ai),(∀ k∈π,cE l k≠some t)->(dR l es s0 π).sl t=s0.sl t/\(dR l es s0 π).ah t=s0.ah t
 | [],_,_=>⟨rfl,rfl⟩
 | k::π,s0,h=>by
  obtain⟨h1,h2⟩:=gF l es t π (s0.jw (cE l k) (es.getD k ⟨false, .any,none⟩).v (es.getD k ⟨false, .any,none⟩).ob) (λ j hj=>h j (by simp[hj]));have hk:=h k (by simp);constructor
  .show (dR l es (s0.jw _ _ _) π).sl t=_;rw[h1,Qy,jP,b3H (λ hh=>hk hh.1)]
  .show (dR l es (s0.jw _ _ _) π).ah t=_;rw[h2,Ff,b3H hk]
def zr(l:List Oper)(es:List QQ)(t k:Nat)(hk:cE l k=some t):∀ (π:List Nat) (s0:ai),k∈π->π.Nodup->(∀ j∈π,j≠k->cE l j≠some t) ->
  (dR l es s0 π).sl t=(if t<s0.aC.length then (es.getD k ⟨false, .any,none⟩).v else s0.sl t) /\
  (dR l es s0 π).ah t=(match (es.getD k ⟨false, .any,none⟩).ob with
   | some o=>some o
   | none=>s0.ah t)
 | [],_,h,_,_=>by simp at h
 | j::π,s0,h,hn,ho=>by
  have BZ:=b4n.1 hn;by_cases hj:j=k
  .subst hj;obtain⟨h1,h2⟩:=gF l es t π (s0.jw (cE l j) (es.getD j ⟨false, .any,none⟩).v (es.getD j ⟨false, .any,none⟩).ob) (λ i hi=>ho i (by simp[hi]) (λ e=>by subst e;exact BZ.1 hi));constructor
   .show (dR l es (s0.jw _ _ _) π).sl t=_;rw[h1,Qy,jP];simp[hk]
   .show (dR l es (s0.jw _ _ _) π).ah t=_;rw[h2,Ff,b4d hk]
  .have PA:=ho j (by simp) hj;obtain⟨h1,h2⟩:=zr l es t k hk π (s0.jw (cE l j) (es.getD j ⟨false, .any,none⟩).v (es.getD j ⟨false, .any,none⟩).ob) (by simpa [Ne.symm hj] using h) BZ.2 (λ i hi=>ho i (by simp[hi]));constructor
   .show (dR l es (s0.jw _ _ _) π).sl t=_;rw[h1,RR,Qy,jP,b3H (c:=cE l j=some t/\_) (λ hh=>PA hh.1)]
   .show (dR l es (s0.jw _ _ _) π).ah t=_;rw[h2];split
    .rfl
    .rw[Ff,b3H PA]
def Xn{l:List Oper}{es:List QQ}{m bits:Nat}{s0:ai}{π π':List Nat}(p9:∀ j k t,j<m->k<m->cE l j=some t->cE l k=some t->j=k)
  (hπ:∀ k∈π,k<m) (Wh:∀ k∈π',k<m) (hn:π.Nodup) (BZ:π'.Nodup) (ha:∀ k,k<m->Nat.testBit bits k=true->k∈π/\k∈π') (t:Nat) (hh:hidden l m bits t=false) :
  (dR l es s0 π).sl t=(dR l es s0 π').sl t/\(dR l es s0 π).ah t=(dR l es s0 π').ah t:=by
 by_cases hex:∃ k,k<m/\cE l k=some t
 .obtain⟨k,hk,hd⟩:=hex;have hb:Nat.testBit bits k=true:=by
   have:=hh;unfold hidden at this;rw[List.any_eq_false] at this;have:=this k (by simpa using hk);simp only[hd] at this;simp only[Nat.beq_refl] at this;simpa using this
  obtain⟨h1,h2⟩:=ha k hk hb;obtain⟨e1,e2⟩:=zr l es t k hd π s0 h1 hn (λ j hj eQ Hl=>eQ (p9 j k t (hπ j hj) hk Hl hd));obtain⟨e3,e4⟩:=zr l es t k hd π' s0 h2 BZ (λ j hj eQ Hl=>eQ (p9 j k t (Wh j hj) hk Hl hd));exact⟨e1.trans e3.symm,e2.trans e4.symm⟩
 .have gm:∀ k,k<m->cE l k≠some t:=λ k hk hd=>hex ⟨k,hk,hd⟩;obtain⟨e1,e2⟩:=gF l es t π s0 (λ k hk=>gm k (hπ k hk));obtain⟨e3,e4⟩:=gF l es t π' s0 (λ k hk=>gm k (Wh k hk));exact⟨e1.trans e3.symm,e2.trans e4.symm⟩
def JI(acc:List Nat)(k:Nat):∀ (es:List Edge) (s:Nat),Nat.testBit (es.foldl (xc acc) s) k=true->Nat.testBit s k=true\/∃ e∈es,Region.binds .any e=true/\(k=e.on\/Nat.testBit (acc.getD e.on 0) k=true)
 | [],s,h => .inl h
 | e::es,s,h=>by
  simp only[b6y] at h;rcases JI acc k es _ h with h|⟨e',Dh,h⟩
  .unfold xc at h;split at h
   .rename_i hb;simp only[Nat.testBit_or,b5o] at h;rcases h with h|h|h
    .exact .inl h
    .refine .inr ⟨e,by simp,hb, .inl ?_⟩;rw[Nat.one_shiftLeft,Nat.testBit_two_pow] at h;exact (b4l h).symm
    .exact .inr ⟨e,by simp,hb, .inr h⟩
   .exact .inl h
  .exact .inr ⟨e',by simp[Dh],h⟩
def Ae:∀ (l:List Oper) (acc:List Nat),∃ r,bU l acc=acc++r/\r.length=l.length /\
  ∀ i o,l[i]?=some o->∀ k,Nat.testBit ((acc++r).getD (acc.length+i) 0) k=true->∃ e∈o.after.toList,Region.binds .any e=true/\(k=e.on\/(e.on<acc.length+i/\Nat.testBit ((acc++r).getD e.on 0) k=true))
 | [],acc=>⟨[],by simp[bU],rfl,by simp⟩
 | o::l,acc=>by
  simp only[bU];obtain⟨r,h1,h2,h3⟩:=Ae l (acc++[o.after.toList.foldl (xc acc) 0]);refine⟨_::r,by rw[h1,b4x];rfl,by simp[h2],λ i p hp k hk=>?_⟩;cases i with
  | zero =>
   simp at hp;subst hp;have lF:Nat.testBit (o.after.toList.foldl (xc acc) 0) k=true:=by
    simpa [List.getD_eq_getElem?_getD] using hk
   rcases JI acc k _ 0 lF with h|⟨e,he,hb,h⟩
   .simp at h
   .refine⟨e,he,hb,h.imp id λ h=>?_⟩;have bK:e.on<acc.length:=by
     rcases b4y e.on acc.length with hl|hl
     .exact hl
     .simp[b3N,b5A hl] at h
    refine⟨by omega,?_⟩;rw[b3N,b5l bK,<-b3N];exact h
  | succ i =>
   have:=h3 i p (by simpa using hp) k (by
    have e1:(acc++[o.after.toList.foldl (xc acc) 0]).length+i=acc.length+(i+1):=by simp;omega
    rw[e1,b4x];exact hk)
   obtain⟨e,he,hb,h⟩:=this;refine⟨e,he,hb,h.imp id λ ⟨h1,h2⟩=>⟨by simp at h1;omega,?_⟩⟩;rw[b4x] at h2;exact h2
def Ci:∀ (l:List Nat) (i m0:Nat),m0<=i->nW l i m0<=i+l.length/\m0<=nW l i m0/\∀ j b,l[j]?=some b->nW l i m0<=i+j->b+1=2 ^ (i+j)
 | [],i,m0,h=>by simp[nW];exact h
 | b::l,i,m0,h=>by
  simp only[nW];split
  .rename_i hb;have hb:=b3x hb;obtain⟨h1,h2,h3⟩:=Ci l (i+1) m0 (by omega);refine⟨by simp;omega,h2,λ j b' hj hle=>?_⟩;cases j with
   | zero=>simp at hj;subst hj;exact hb
   | succ j=>rw[show i+(j+1)=i+1+j by omega];exact h3 j b' (by simpa using hj) (by omega)
  .obtain⟨h1,h2,h3⟩:=Ci l (i+1) (i+1) (b4h _);refine⟨by simp;omega,by omega,λ j b' hj hle=>?_⟩;cases j with
   | zero=>omega
   | succ j=>rw[show i+(j+1)=i+1+j by omega];exact h3 j b' (by simpa using hj) (by omega)
end Go.Proofs.YtmjfpcajohhbeaaGreatDoor

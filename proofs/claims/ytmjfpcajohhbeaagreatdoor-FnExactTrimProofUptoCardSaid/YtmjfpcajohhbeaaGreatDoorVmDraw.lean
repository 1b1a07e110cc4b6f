/- VmEff, VmTree, VmMark, VmOwnOps, VmBuild, VmBuild2, VmSt, VmStep, VmDraw. -/
import Derived.Test.YtmjfpcajohhbeaaGreatDoorVmOps
set_option linter.all false
namespace Go.Proofs.YtmjfpcajohhbeaaGreatDoor
def b5b:=@List.getD_eq_getElem?_getD
def b6W:=@Array.eq_empty_of_size_eq_zero
def b8S:=@Go.setRow_heap
def b7d:=@List.drop_eq_nil_of_le
def b5V:=@List.length_set
def b6F:=@List.map_append
def b6r:=@Go.Value.tuple.injEq
def b8u:=@List.toArray_inj
def b6l:=@List.mem_cons_of_mem
def b5s:=@List.nodup_append
def b6g:=@List.cons_append
def b6b:=@List.nodup_nil
def b5G:=@List.nodup_cons
def b6d:=@List.take_append_drop
def b7U:=@List.map_set
def b6J:=@List.getElem?_eq_none
def b6G:=@Bool.or_eq_true
def b7n:=@Nat.lt_irrefl
def b8N:=@Array.toList_append
def b7p:=@List.mem_cons_self
def b7F:=@Classical.byContradiction
def b7N:=@List.nodup_range
def b7q:=@List.Nodup.length_le_of_subset
def b6u:=@Go.Oper.wp_mono
def b7y:=@Option.getD_some
def b8C:=@List.set_getElem_self
def b6X:=@List.foldl_cons
theorem Ki(f:aB->aB):∀ (l:List (Nat×aB)) (j:Nat),ah (l.map λ p=>(p.1,f p.2)) j=(ah l j).map f
 | [],_=>rfl
 | (k,o)::r,j=>by
  simp only[b5J,ah];split
  .rfl
  .exact Ki f r j
theorem eI(id:Nat):∀ (l:List (Nat×aB)) (j:Nat),ah (bS id l) j=if j=id then none else ah l j
 | [],_=>by simp[bS,ah]
 | (k,o)::r,j=>by
  simp only[bS];split
  .rename_i h;have h:=b4O h;subst h;rw[eI k r j];by_cases hj:j=k
   .simp[hj]
   .rw[b4Z hj,b4Z hj];simp only[ah];split
    .rename_i h;exact absurd (b4O h).symm hj
    .rfl
  .rename_i h;have hk:k≠id:=λ e=>by subst e;simp at h
   simp only[ah];split
   .rename_i h';have h':=b4O h';subst h';rw[b4Z hk]
   .exact eI id r j
theorem dF(k:Nat)(o:aB)(l:List (Nat×aB))(j:Nat):ah ((k,o)::l) j=if j=k then some o else ah l j:=by
 simp only[ah];split
 .rename_i h;rw[b5u (b4O h).symm]
 .rename_i h;have:j≠k:=λ e=>by subst e;simp at h
  rw[b4Z this]
theorem re(l:List AV)(d:Nat)(v:AV)(o:List (Nat×aB)):aj.sl ⟨l.set d v,o⟩=jV l.length (aj.sl ⟨l,o⟩) (some d) v:=by
 funext i;simp only[aj.sl,jV,b5b,b7K,b4L];by_cases h:d=i
 .subst h;by_cases hl:d<l.length
  .simp[hl]
  .simp[hl]
 .simp[h]
theorem a5I(s:aj)(d:Option Nat)(v:AV):(s.put d v).sl=jV s.aC.length s.sl d v:=by
 cases d with
 | none=>funext i;simp[aj.put,jV]
 | some d=>exact re s.aC d v s.aJ
theorem ZL(s:aj)(d:Option Nat)(v:AV):(s.put d v).ah=s.ah:=by cases d<;>rfl
theorem TM(s:aj)(d:Option Nat)(v:AV):(s.put d v).aC.length=s.aC.length:=by cases d<;>simp[aj.put]
theorem Z5(s:aj)(id:Nat):(s.cq id).sl=λ i=>(s.sl i).kill id:=by
 funext i;simp only[aj.sl,aj.cq,b5b,b6D];cases s.aC[i]?<;>simp[AV.kill,AV.refs]
theorem en(s:aj)(id:Nat):(s.cq id).ah=λ i=>(s.ah i).map (aB.kill id):=by
 funext i;exact Ki _ _ _
section
variable {c:Ctx} {G:Gh} {s:aj} {a:Act} {w w':World}
theorem Inv.put(h:Inv c G s a w){d:Option Nat}{v:AV}{x:Value}(hv:VR c G s.ah w v x):Inv c G (s.put d v) (a.put d x) w:=by
 unfold Inv;rw[a5I,ZL,TM];exact bw.put h hv
theorem Inv.clear(h:Inv c G s a w)(id:Nat):bw c G (s.cq id).sl s.aC.length (λ i=>if i=id then none else (s.cq id).ah i) a w /\
  (∀ i,((s.cq id).sl i).refs id=false)/\∀ i o,(s.cq id).ah i=some o->o.refs id=false:=by
 have h1:=bw.cq h id;have hs:∀ i,((s.cq id).sl i).refs id=false:=λ i=>by rw[Z5];exact Ft id _
 have ho:∀ i o,(s.cq id).ah i=some o->o.refs id=false:=λ i o cG=>by
  rw[en] at cG;simp only[b5L] at cG;obtain⟨o',_,rfl⟩:=cG;cases o' with
  | box cs=>exact JO id cs
  | row e τ xs=>rfl
  | av τ xs=>rfl
  | map m=>rfl
 refine⟨?_,hs,ho⟩;rw[Z5,en];exact bw.a9w h1 id (λ i=>Ft id _) (λ i o cG _=>by
  have:=ho i o (by rw[en];exact cG);exact this)
theorem YH(id:Nat)(o:aB):(o.kill id).refs id=false:=by
 cases o with
 | box cs=>exact JO id cs
 | row e τ xs=>rfl
 | av τ xs=>rfl
 | map m=>rfl
theorem Inv.a5m(h:Inv c G s a w){id:Nat}{v:AV}{o:aB}{x:Value}(bK:id<400000)(hN:a4L c G s.ah w x o)(hL:LV (some id) v o)
  (jA:∀ b,ef x=some b->(c.w0.heap.size<=b\/c.X b)/\¬ G.S b/\b<w.heap.size/\(∀ i o',i≠id->s.ah i=some o'->ef (G.η i)≠some b)/\∀ j τ xs,s.ah j=some (.av τ xs)->b∉G.φ j) :
  Inv c ⟨G.S,λ i=>if i=id then x else G.η i,G.φ⟩ (s.lay (some id) v (some o)) (a.put (some id) x) w:=by
 obtain⟨h1,h2,h3⟩:=h.clear id;have ct:(s.lay (some id) v (some o)).ah=λ i=>if i=id then some (o.kill id) else (if i=id then none else (s.cq id).ah i):=by
  funext i;show ah ((id,o.kill id)::bS id (s.cq id).aJ) i=_;rw[dF,eI];rfl
 have Aq:(s.lay (some id) v (some o)).sl=jV s.aC.length (s.cq id).sl (some id) v:=by
  have:=re (s.cq id).aC id v ((id,o.kill id)::bS id (s.cq id).aJ);rw[show (s.cq id).aC.length=s.aC.length from by simp[aj.cq]] at this;exact this
 have hlen:(s.lay (some id) v (some o)).aC.length=s.aC.length:=by simp[aj.lay,aj.cq]
 have rC:OR c ⟨G.S,λ i=>if i=id then x else G.η i,G.φ⟩ (λ i=>if i=id then some (o.kill id) else (if i=id then none else (s.cq id).ah i)) w id (o.kill id):=by
  cases o with
  | box cs =>
   obtain⟨b,l,t,k1,k2,k3⟩:=hN;refine⟨b,l,t,by simp[k1],k2,aT.dZ _ (k3.imp λ u y _ hy=>?_)⟩;refine (hy.kill id).mono (λ j hj=>?_) (λ _ h=>h) (λ _ _=>rfl);have eR:j≠id:=λ e=>by subst e;rw[Ft] at hj;cases hj
   simp only[b4Z eR];exact⟨by rw[en];exact Oq id _,ae⟩
  | row e τ xs =>
   obtain⟨l,k1,k2,k3⟩:=hN;exact⟨l,by simpa using k1,k2,k3⟩
  | av τ xs=>exact hN.elim
  | map m =>
   obtain⟨b,es,clock,k1,k2,k3⟩:=hN;exact⟨b,es,clock,by simp[k1],k2,k3⟩
 have hot:cx (some (o.kill id))=false:=by
  cases o with
  | av τ xs=>exact hN.elim
  | _=>rfl
 have h4:=bw.newObj h1 id (o.kill id) x (by simp) h2 (λ i p xg=>by
  by_cases hi:i=id
  .simp[hi] at xg
  .rw[b4Z hi] at xg;exact h3 i p xg) (YH id o) rC hot (.inr bK) (λ b hb=>by
  obtain⟨q1,q2,q3,q4,q5⟩:=jA b hb;refine⟨q1,q2,q3,λ i p xg=>?_,λ j τ xs hj=>?_⟩
  .by_cases hi:i=id
   .simp[hi] at xg
   .rw[b4Z hi,en] at xg;simp only[b5L] at xg;obtain⟨p',Ld,_⟩:=xg;exact q4 i p' hi Ld
  .by_cases hi:j=id
   .simp[hi] at hj
   .rw[b4Z hi,en] at hj;exact q5 j τ xs (jH hj))
 unfold Inv;rw[Aq,ct,hlen];refine bw.put h4 ?_;cases o with
 | box cs =>
  obtain⟨i,hi,rfl⟩:=hL;simp only[b4L] at hi;subst hi;obtain⟨b,l,t,k1,k2,k3⟩:=hN;exact⟨b,by simp[k1],k1,by simp[aB.kill,gi]⟩
 | row e τ xs =>
  obtain⟨i,hi,rfl⟩:=hL;simp only[b4L] at hi;subst hi;obtain⟨l,k1,k2,k3⟩:=hN;refine⟨by simp,by simp[aB.kill,isRow],?_⟩;rcases k1.2 with ⟨rfl,_⟩|⟨g,cap,cur,rfl,_⟩
  .exact⟨_,_,_,rfl⟩
  .exact⟨_,_,_,rfl⟩
 | av τ xs=>exact hN.elim
 | map m =>
  obtain⟨i,hi,rfl⟩:=hL;simp only[b4L] at hi;subst hi;obtain⟨b,es,clock,k1,k2,k3⟩:=hN;exact⟨by simp,by simp[aB.kill,NM],b,k1⟩
theorem Xd(h0:Inv c G s a w){d:Option Nat}(Nz:uE d=true){v:AV}{ob:Option aB}{a':Act}(h:Ay c G s.sl s.aC.length s.ah d a w v ob a' w'):∃ G',Inv c G' (s.lay d v ob) a' w':=by
 obtain⟨x,S',rfl,hI,hx⟩:=h;cases ob with
 | none=>exact⟨_,by cases d<;>exact Inv.put (s:=s) hI hx⟩
 | some o =>
  obtain⟨hL,hN,hb⟩:=hx;have hd:∃ i,d=some i:=by cases o<;>first|exact⟨_,hL.choose_spec.1⟩|exact hL.elim
  obtain⟨i,rfl⟩:=hd;refine⟨_,Inv.a5m (s:=s) hI (b5R Nz) hN hL λ b IL=>?_⟩;obtain⟨h1,h2,h3⟩:=hb b IL;have hle:=h0.aR.size;refine⟨by omega,h3,h2,λ j o' _ hj Um=>?_,λ j τ xs hj Um=>?_⟩
  .have:=(h0.place j o' b hj Um).2.2;omega
  .have:=(h0.aL.pl j τ xs b hj Um).2.2.1;omega
theorem a1D{k:IntKind}{n:Int}(h:V7 k n=true):k.min<=n/\n<=k.max:=by
 unfold V7 at h;split at h
 .rename_i m;split at h<;>have h:=b5R h<;>try (simp[IntKind.min,IntKind.max,IntKind.signed,IntKind.bits];omega)
  cases k<;>simp_all [IntKind.min,IntKind.max,IntKind.signed,IntKind.bits]<;>omega
 .rename_i m;split at h
  .have h:=b5R h;simp[IntKind.min,IntKind.max,IntKind.signed,IntKind.bits];omega
  .cases h
theorem LK(lk:Nat->Option aB)(v:Value):C1 c G lk w (Pr v) v:=by
 unfold Pr;split
 .split
  .rename_i h;exact⟨rfl,rfl,a1D h⟩
  .trivial
 .exact⟨rfl,rfl⟩
 .split
  .rename_i sv _ h;have h:=b5R h;exact⟨rfl,sv,rfl,rfl,by have:sv.size=sv.data.size:=rfl;omega⟩
  .trivial
 .rfl
 .trivial
theorem bp(h:Inv c G s a w)(x:Operand):VR c G s.ah w (s.eval x) (a.eval x):=by
 cases x with
 | tmp t=>exact h.aC t
 | const v =>
  simp only[aj.eval,Act.eval];unfold a1C;split
  .rename_i cs;refine⟨cs.toList,rfl,aT.dZ _ ?_⟩;have:∀ l:List Value,aT (λ u y=>C1 c G s.ah w (Pr u) y) l l:=by
    intro l;induction l with
    | nil=>trivial
    | cons u r ih=>exact⟨LK _ u,ih⟩
   exact this _
  .rename_i cs;split
   .rename_i hz;have:cs = #[]:=b6W (b4O hz);subst this;exact rfl
   .trivial
  .exact (LK _ v).fU
 | global g=>trivial
 | func f=>rfl
theorem mU{g:Nat}{old cs:Array Value}{t:TypeId}{fr:Nat×Nat}(w:World)(hg:w.heap[g]?=some (.cells old t fr))(k:Nat)(hk:k≠g):(w.setRow g cs).heap[k]?=w.heap[k]?:=setRow_other w g k cs hk
theorem xn(hE:bF c.P c.E){T:TypeId}{τ:Ty}{b e:Nat}(hT:ah c.E.ty T=some (τ,b,e)){g o:Nat}{l:List Value}{t:TypeId}{x:Value}(hg:w.heap[g]?=some (.cells l.toArray t (0,0)))
  (hx:x.cells.toList.length=τ.size) (h1:∀ u∈x.cells.toList,u.oneCell'=true) (Dz:o+τ.size<=l.length) :
  (Instr.storeAt T (.pointer (some ⟨g,o,none⟩)) x).run c.P w = .ok () (w.setRow g (l.take o++x.cells.toList++l.drop (o+τ.size)).toArray):=by
 have hn:¬ (x.cells.size≠τ.size):=by simpa using hx
 simp only[Instr.storeAt,Instr.sureAddr,storeVar,Sem.run_bind,Sem.run_pure,Result.andThen_ok,hE.sizeOf hT,if_neg hn];have:=run_storeCells_at c.P g o t x.cells.toList 0 l.toArray w hg (by simp at hx ⊢;omega) h1;simpa [hx] using this
theorem YT{cs new dE:List AV}{off:Nat}(h:putCells cs off new=some dE):off+new.length<=cs.length/\dE=cs.take off++(new++cs.drop (off+new.length)):=by
 unfold putCells at h;split at h
 .rename_i hb;simp only[b4L] at h;exact⟨b5R hb,h.symm⟩
 .cases h
theorem Inv.store(hE:bF c.P c.E)(h:Inv c G s a w){T:TypeId}{τ:Ty}{bt e:Nat}(hT:ah c.E.ty T=some (τ,bt,e)){id off:Nat}{cs new dE:List AV}{x p:Value}(aY:s.ah id=some (.box cs))(hp:VR c G s.ah w (.ptr id off) p)
  (rC:∃ v,cellsOf τ v=some new/\VR c G s.ah w v x) (DC:putCells cs off new=some dE) :
  ∃ w',(Instr.storeAt T p x).run c.P w = .ok () w'/\Inv c G { s with aJ:=(id, .box dE)::bS id s.aJ } a w':=by
 obtain⟨v,hv,hx⟩:=rC;obtain⟨h1,h2,h3⟩:=B0 hv hx;obtain⟨h4,rfl⟩:=YT DC;obtain⟨b,k1,rfl,_⟩:=hp;obtain⟨b',l,t,k2,k3,k4⟩:=h.aJ id _ aY;rw[k1] at k2;simp only[b7k,b4L,b6A,b5d] at k2;subst k2;have hlen:=h1.length;have hll:=k4.length;have cI:=xn (c:=c) hE hT (o:=off) (x:=x) k3 (by omega) h2 (by omega);refine⟨_,cI,?_⟩;have Aq:aj.sl { s with aJ:=(id, .box (cs.take off++(new++cs.drop (off+new.length))))::bS id s.aJ }=s.sl:=rfl;have ct:aj.ah { s with aJ:=(id, .box (cs.take off++(new++cs.drop (off+new.length))))::bS id s.aJ }=λ i=>if i=id then some (.box (cs.take off++(new++cs.drop (off+new.length)))) else s.ah i:=by
  funext i;show ah (_::bS id s.aJ) i=_;rw[dF,eI];by_cases hi:i=id
  .simp[hi]
  .simp[hi];rfl
 unfold Inv;rw[Aq,ct];have cw:∀ k,St c G.S k->(w.setRow b (l.take off++x.cells.toList++l.drop (off+τ.size)).toArray).heap[k]?=w.heap[k]?:=λ k hk=>mU w k3 k λ e=>by
  subst e;obtain⟨q1,q2,q3⟩:=h.place id _ k aY (by rw[k1];rfl);rcases hk with hk|hk
  .exact q2 hk
  .exact q1.elim (λ q=>by omega) hk.2.1
 have eU:∀ j,eK (s.ah j) ((λ i=>if i=id then some (aB.box (cs.take off++(new++cs.drop (off+new.length)))) else s.ah i) j):=λ j=>by
  by_cases hj:j=id
  .subst hj;simp only[b6M];exact⟨λ _=>rfl,(λ e τ xs hh=>by rw[aY] at hh;cases hh),(λ hh=>by rw[aY] at hh;cases hh),λ hh=>by rw[aY] at hh;cases hh⟩
  .simp only[b4Z hj];exact eK.refl _
 refine bw.a0O h id _ _ b aY (by rw[k1];rfl) ⟨λ _=>rfl,(λ e τ xs hh=>by cases hh),(λ hh=>by cases hh),λ hh=>by cases hh⟩ rfl (λ k hk=>mU w k3 k hk) rfl rfl rfl (by simp[World.setRow]) ?_;refine⟨b,_,t,k1,b8S w b _ _ t _ k3,?_⟩;have key:aT (C1 c G s.ah w) (cs.take off++(new++cs.drop (off+new.length))) (l.take off++x.cells.toList++l.drop (off+τ.size)):=by
  rw[b5O,<-h3];exact aT.append (k4.take off) (aT.append h1 (k4.drop _))
 exact key.imp λ u y _ hy=>hy.mono (λ j _=>⟨eU j,rfl⟩) (λ _ h=>h) cw
theorem Xf(cur b9:List Value)(o sz N:Nat)(hv:b9.length=sz)(hN:o+sz<=N)(hc:N<=cur.length) :
  (cur.take o++b9++cur.drop (o+sz)).take N=(cur.take N).take o++b9++(cur.take N).drop (o+sz):=by
 have h1:(cur.take o++b9).length=o+sz:=by simp[hv];omega
 rw[b8t,h1,b5o (by omega),List.take_take,Nat.min_eq_left (by omega),List.drop_take]
theorem dU.b1c{S:Nat->Prop}{n:Nat}{d':D}{c':List Value}(hd:Rd w S d' c')(Ci:c'.length=n):∀ (ds:List D) {l:List Value} (i:Nat),dU w S ds l->(∀ d∈ds,d.size=n)->i<ds.length->dU w S (ds.set i d') (l.take (i * n)++c'++l.drop (i * n+n))
 | [],l,i,_,_,hi=>by simp at hi
 | e::ds,l,0,h,hn,_=>by
  obtain⟨c1,r,rfl,h2,h3⟩:=h;have hc:c1.length=n:=by rw[Rd.length _ h2];exact hn _ (by simp)
  refine⟨c',r,?_,hd,h3⟩;simp only[b7S,b5T,b5q,b6w];rw[<-hc,b7i]
 | e::ds,l,i+1,h,hn,hi=>by
  obtain⟨c1,r,rfl,h2,h3⟩:=h;have hc:c1.length=n:=by rw[Rd.length _ h2];exact hn _ (by simp)
  refine⟨c1,r.take (i * n)++c'++r.drop (i * n+n),?_,h2,dU.b1c hd Ci ds i h3 (λ d hd=>hn d (by simp[hd])) (by simpa using hi)⟩;have e1:(i+1) * n=c1.length+i * n:=by rw[Nat.add_mul,hc];omega
  rw[e1,b8t,b5o (by omega),show c1.length+i * n - c1.length=i * n by omega,b7L,List.drop_append,b7d (by omega),b5q,
   show c1.length+(i * n+n) - c1.length=i * n+n by omega]
  simp
theorem Inv.a6G(hE:bF c.P c.E)(h:Inv c G s a w){T:TypeId}{τ:Ty}{bt e:Nat}(hT:ah c.E.ty T=some (τ,bt,e)){id i:Nat}{e':TypeId}{xs:List τ.den}{v:AV}{y:τ.den}{x p:Value}(aY:s.ah id=some (.row e' τ xs))
  (hp:VR c G s.ah w (.eH id i 0) p) (hx:VR c G s.ah w v x) (hy:Ae (λ _=>none) τ v=some y) :
  ∃ w',(Instr.storeAt T p x).run c.P w = .ok () w'/\Inv c G { s with aJ:=(id, .row e' τ (xs.set i y))::bS id s.aJ } a w':=by
 obtain⟨b,n,cap,e1,Y3,Y2,k1,k2,k3,rfl⟩:=hp;rw[aY] at k2;simp only[b4L,aB.row.injEq] at k2;obtain⟨rfl,rfl,k2⟩:=k2;have k2:=b7O k2;subst k2;have hr:=(O0 hy hx).cells;have vI:x.cells.toList.length=τ.size:=by
  have:=Rd.length _ hr;rwa [show TV.aP ⟨τ,y⟩=τ.aP y from rfl,Ty.cN] at this
 have IS:∀ u∈x.cells.toList,u.oneCell'=true:=Rd.nt (x:=y) hr;obtain⟨l,m1,m2,m3⟩:=h.aJ id _ aY;have cK:∀ d∈xs.map τ.aP,d.size=τ.size:=by
  intro d hd;obtain⟨z,_,rfl⟩:=b4W.1 hd;exact Ty.cN τ z
 have hll:=dU.length _ m2 cK;simp only[b5g] at hll;have Dz:i * τ.size+τ.size<=xs.length * τ.size:=by
  have:=b6N τ.size (show i+1<=xs.length by omega);rw[b6i] at this;omega
 rcases m1.2 with ⟨hv,_⟩|⟨g,Tt,cur,hv,_,hh,YC,hcm,kj,htk⟩
 .rw[k1] at hv;cases hv
 .rw[k1] at hv;simp only[b6v,b4L,b6A,b5d] at hv;obtain⟨rfl,rfl,rfl⟩:=hv;have Fj:xs.length * τ.size<=cur.toList.length:=by
   rw[b5S (xs:=cur),kj];exact b6N _ YC
  have cI:=xn (c:=c) (l:=cur.toList) hE hT (o:=i * τ.size+0) (x:=x) (by simpa using hh) vI IS (by omega);refine⟨_,cI,?_⟩;have ct:aj.ah { s with aJ:=(id, .row e' τ (xs.set i y))::bS id s.aJ }=λ j=>if j=id then some (.row e' τ (xs.set i y)) else s.ah j:=by
   funext j;show ah (_::bS id s.aJ) j=_;rw[dF,eI];by_cases hj:j=id
   .simp[hj]
   .simp[hj];rfl
  unfold Inv;rw[ct];refine bw.a0O h id _ _ b aY (by rw[k1];rfl) ⟨λ hh=>(by cases hh),λ e2 kW ny hh=>?_,(λ hh=>by cases hh),λ hh=>by cases hh⟩ rfl (λ k hk=>mU w hh k hk) rfl rfl rfl (by simp[World.setRow]) ?_
  .simp only[b4L,aB.row.injEq] at hh;obtain⟨rfl,rfl,hh⟩:=hh;have hh:=b7O hh;subst hh;exact⟨_,_,rfl,by simp⟩
  .refine⟨(l.take (i * τ.size)++x.cells.toList++l.drop (i * τ.size+τ.size)),⟨?_, .inr ⟨b,cap,_,by simpa using k1,Nat.zero_le _,setRow_heap w b cur _ e' _ hh,by simpa using YC,hcm,?_,?_⟩⟩,?_,by simpa using m3⟩
   .rw[b5V,b5f,b5f,b5n,b6f,vI,hll];omega
   .rw[List.size_toArray,b5f,b5f,b5n,b6f,vI,<-kj,<-b5S (xs:=cur)];omega
   .simp only[b6R,b5V];rw[Xf _ _ _ _ _ vI Dz Fj,htk]
   .rw[List.map_set];have:=dU.b1c hr (by rw[vI]) _ i m2 cK (by simpa using k3);refine dU.aR (λ _ h=>h) (λ k hk=>mU w hh k λ e=>?_) _ this;subst e;exact (h.place id _ k aY (by rw[k1];rfl)).2.1 hk
theorem Inv.Vn(hE:bF c.P c.E)(h:Inv c G s a w){T:TypeId}{κ ε:Ty}(hT:ah c.E.mty T=some (κ,ε)){id:Nat}{f:κ.den->Option ε.den}{n:Nat}(aY:s.ah id=some (.map ⟨κ,ε,f,n⟩))
  {k:κ.den} {x:ε.den} {p y z:Value} (hp:VR c G s.ah w (.mp id) p) (hy:dV w G.S ⟨κ,k⟩ y) (hz:dV w G.S ⟨ε,x⟩ z) (hn:n<1000000000) :
  ∃ w',(Instr.mapUpdate T p y z).run c.P w = .ok () w'/\Inv c G { s with aJ:=(id, .map ⟨κ,ε,Mb f k x,TS (f k) n⟩)::bS id s.aJ } a w':=by
 obtain⟨kT,eT,u1,u2,u3,u4,_⟩:=hE.map hT w;obtain⟨b,es,clock,k1,k2,k3⟩:=h.aJ id _ aY;have sc:∀ {τ:Ty} {q:τ.den} {v:Value},τ.key=true->dV w G.S ⟨τ,q⟩ v->xb τ q v:=λ {τ q v} hs hv=>by
  refine xb.of (w:=w) (S:=G.S) hs ?_;cases τ with
  | int _=>exact hv
  | bool=>exact hv
  | str=>exact hv
  | _=>cases hs
 obtain⟨es',Vg,m1,m2⟩:=k3.store (P:=c.P) u1 u2 k2 (sc u3 hy) (sc u4 hz) hn;obtain⟨hp1,_⟩:=hp;refine⟨_,by rw[hp1,k1];exact m1,?_⟩;have ct:aj.ah { s with aJ:=(id, .map ⟨κ,ε,Mb f k x,TS (f k) n⟩)::bS id s.aJ }=λ i=>if i=id then some (.map ⟨κ,ε,Mb f k x,TS (f k) n⟩) else s.ah i:=by
  funext i;show ah ((id,_)::bS id s.aJ) i=_;rw[dF,eI];by_cases hi:i=id
  .simp[hi]
  .simp[hi];rfl
 unfold Inv;rw[ct];obtain⟨q1,q2⟩:=MapKept.heap_set (o' := .map es' Vg) k2;refine bw.a0O h id _ _ b aY (by rw[k1];rfl) ⟨λ hh=>(by cases hh),(λ e τ xs hh=>by cases hh),(λ hh=>by cases hh),λ _=>rfl⟩ rfl q2 rfl rfl rfl (by simp) ?_;exact⟨b,es',Vg,k1,q1,m2⟩
theorem Inv.append(hE:bF c.P c.E)(h:Inv c G s a w){T:TypeId}{τ:Ty}{bt e id d:Nat}(hT:ah c.E.ty T=some (.slice τ,bt,e)){xs ys:List τ.den}{y:AV}{v z:Value}(aY:s.ah id=some (.row e τ xs))
  (hv:VR c G s.ah w (.row id) v) (hz:VR c G s.ah w y z) (hy:jN (QP s.ah) (.slice τ) y=some ys) (Fm:bc (xs.length+ys.length) bt) (ty:TypeId) :
  ∃ v' w' G',(Builtin.append_ #[T,T] ty #[v,z]).run c.P w = .ok v' w' /\
   Inv c G' { aC:=(s.cq id).aC.set d (.row id),aJ:=(id, .row e τ (xs++ys))::bS id (s.cq id).aJ } (a.put (some d) v') w':=by
 obtain⟨rfl,_,_⟩:=hv;have hzc:C1 c G s.ah w y z:=by
  refine hz.Z6 ?_;cases y with
  | aH u =>
   have e:=TV.aU hy;subst e;rfl
  | nil=>rfl
  | row i=>rfl
  | av i=>rfl
  | _=>cases hy
 obtain⟨l,m1,m2,m3⟩:=h.aJ id _ aY;obtain⟨v',w',news,k1,k2,k3,k4,k5,k6⟩:=Tk (w:=w) (base:=0) hE hT m1 (b5Y _) (a4O h.aJ (JB λ _ _ h=>h) a2q hy hzc) Fm ty;have Un:=sP m1;have b0U:=sP k2;obtain⟨h1,h2,h3⟩:=h.clear id;have eG:∀ b,ef (G.η id)=some b->(c.w0.heap.size<=b\/c.X b)/\¬ G.S b/\b<w.heap.size:=λ b hb=>h.place id _ b aY hb;have hw:∀ b,b<w.heap.size->ef (G.η id)≠some b->w'.heap[b]?=w.heap[b]?:=λ b hb eR=>k3.block b hb (by rw[Un];exact λ e=>eR e.symm);have cw:∀ b,St c G.S b->w'.heap[b]?=w.heap[b]?:=λ b hb=>by
  refine hw b ?_ λ e=>?_
  .rcases hb with hb|hb
   .exact h.dB b hb
   .exact b5i hb.1 h.aR.size
  .obtain⟨q1,q2,q3⟩:=eG b e;rcases hb with hb|hb
   .exact q2 hb
   .exact q1.elim (λ q=>by omega) hb.2.1
 have b3G:∀ j τ xs b,s.ah j=some (.av τ xs)->b∈G.φ j->w'.heap[b]?=w.heap[b]?:=λ j τ xs b hj hb =>
  hw b (h.aL.pl j τ xs b hj hb).2.2.1 ((h.aL.pl j τ xs b hj hb).2.2.2 id _ aY)
 have DB:∀ j o b,j≠id->s.ah j=some o->ef (G.η j)=some b->w'.heap[b]?=w.heap[b]?:=λ j o b hj ho hb=>by
  refine hw b (h.place j o b ho hb).2.2 λ e=>?_;exact hj (h.apart j id o _ b ho aY hb e)
 have h4:bw c ⟨G.S,G.η,G.φ⟩ (s.cq id).sl s.aC.length (λ i=>if i=id then none else (s.cq id).ah i) a w':=by
  refine h1.world (S':=G.S) ⟨k3.os,k3.tape,k3.output,k3.size,λ b hb hx=>hw b hb λ e=>hx (eG b e).1⟩ (λ _ h=>h) (λ _ _=>b6P) h1.sX (λ b hb=>b5i (h1.dB b hb) k3.size) cw ?_ (λ j τ xs b hj hb=>by
   by_cases vH:j=id
   .simp[vH] at hj
   .rw[b4Z vH,en] at hj;exact b3G j τ xs b (jH hj) hb)
  intro j o b hj hb;by_cases vH:j=id
  .simp[vH] at hj
  .rw[b4Z vH,en] at hj;simp only[b5L] at hj;obtain⟨o',cP,_⟩:=hj;exact DB j o' b vH cP hb
 have b1N:((xs++ys).length)=xs.length+ys.length:=by simp
 have h5:=bw.newObj h4 id (.row e τ (xs++ys)) v' (by simp) h2 (λ i p xg=>by
  by_cases hi:i=id
  .simp[hi] at xg
  .rw[if_neg hi] at xg;exact h3 i p xg) rfl ⟨l++news,by simpa using k2,by
    rw[b6F];exact dU.append _ _ (dU.aR (λ _ h=>h) (λ b hb=>cw b (.inl hb)) _ m2) (dU.aR (λ _ h=>h) (λ b hb=>cw b (.inl hb)) _ k5),by rw[b1N];exact k6⟩ rfl (.inl rfl) (λ b hb=>by
  have bK:=(k2.lt b (b0U.trans hb)).2;have yF:ef (G.η id)=some b\/b=w.heap.size:=by
   rw[<-b0U,] at hb;rcases k4 with q|q
   .left;rw[<-Un,<-q];exact hb
   .right;rw[q] at hb;exact (b7E hb).symm
  refine⟨?_,?_,bK,λ j p hjp Um=>?_,λ j kW ny Qd Um=>?_⟩
  .rcases yF with q|q
   .exact (eG b q).1
   .have:=h.aR.size;omega
  .rcases yF with q|q
   .exact (eG b q).2.1
   .intro hs;have:=h.dB b hs;omega
  .by_cases vH:j=id
   .simp[vH] at hjp
   .rw[b4Z vH,en] at hjp;simp only[b5L] at hjp;obtain⟨o',cP,_⟩:=hjp;rcases yF with q|q
    .exact vH (h.apart j id o' _ b cP aY Um q)
    .have:=(h.place j o' b cP Um).2.2;omega
  .by_cases vH:j=id
   .simp[vH] at Qd
   .rw[b4Z vH,en] at Qd;obtain⟨_,_,q3,q4⟩:=h.aL.pl j kW ny b (jH Qd) Um;rcases yF with q|q
    .exact q4 id _ aY q
    .omega)
 refine⟨v',w',⟨G.S,λ i=>if i=id then v' else G.η i,G.φ⟩,k1,?_⟩;unfold Inv;have ct:aj.ah { aC:=(s.cq id).aC.set d (.row id),aJ:=(id, .row e τ (xs++ys))::bS id (s.cq id).aJ }=λ i=>if i=id then some (.row e τ (xs++ys)) else (if i=id then none else (s.cq id).ah i):=by
  funext i;show ah (_::bS id (s.cq id).aJ) i=_;rw[dF,eI];rfl
 have Aq:aj.sl { aC:=(s.cq id).aC.set d (.row id),aJ:=(id, .row e τ (xs++ys))::bS id (s.cq id).aJ }=jV s.aC.length (s.cq id).sl (some d) (.row id):=by
  have:=re (s.cq id).aC d (.row id) ((id, .row e τ (xs++ys))::bS id (s.cq id).aJ);rw[show (s.cq id).aC.length=s.aC.length from by simp[aj.cq]] at this;exact this
 rw[Aq,ct,show ({ aC:=(s.cq id).aC.set d (.row id),aJ:=(id, .row e τ (xs++ys))::bS id (s.cq id).aJ }:aj).aC.length=s.aC.length from by simp[aj.cq]];refine bw.put h5 ⟨by simp,by simp[isRow],?_⟩;rcases k2.2 with ⟨rfl,_⟩|⟨g,cap,cur,rfl,_⟩
 .exact⟨_,_,_,rfl⟩
 .exact⟨_,_,_,rfl⟩
end
section
variable {c:Ctx} {G:Gh} {sl:Nat->AV} {n:Nat} {lk:Nat->Option aB} {a:Act} {w w':World}
theorem bw.XD(h:bw c G sl n lk a w)(id:Nat)(τ:Ty)(xs:List τ.den)(η0:Value)(fp:List Nat)(aY:lk id=none)(hs:∀ i,(sl i).refs id=false)(ho:∀ i o,lk i=some o->o.refs id=false)
  (b3j:c.R id=none) (hT:ie w η0 τ xs fp) (cR:fp.Nodup) (WK:∀ b∈fp,(c.w0.heap.size<=b\/c.X b)/\¬ G.S b/\b<w.heap.size/\(∀ i o,lk i=some o->ef (G.η i)≠some b)/\∀ j τ xs,lk j=some (.av τ xs)->b∉G.φ j) :
  bw c ⟨G.S,λ i=>if i=id then η0 else G.η i,λ i=>if i=id then fp else G.φ i⟩ sl n (λ i=>if i=id then some (.av τ xs) else lk i) a w:=by
 have eU:∀ j,j≠id->eK (lk j) ((λ i=>if i=id then some (aB.av τ xs) else lk i) j)/\(if j=id then η0 else G.η j)=G.η j:=λ j hj=>by simp only[b4Z hj];exact⟨eK.refl _,ae⟩
 have P8:ef η0=none:=by
  obtain⟨v,l,_,_,h1,_⟩:=hT;rw[h1];rfl
 have jA:∀ i b,ef (if i=id then η0 else G.η i)=some b->i≠id/\ef (G.η i)=some b:=λ i b hb=>by
  by_cases hi:i=id
  .rw[b5u hi,P8] at hb;cases hb
  .rw[b4Z hi] at hb;exact⟨hi,hb⟩
 have hold:∀ j bf cS,(if j=id then some (aB.av τ xs) else lk j)=some (.av bf cS)->j≠id->lk j=some (.av bf cS):=λ j bf cS k hj=>by rwa [b4Z hj] at k
 exact {
  defers:=h.defers,size:=h.size,aR:=h.aR,jf:=h.jf,dT:=h.dT,sX:=h.sX,dB:=h.dB
  aC:=λ i=>(h.aC i).mono (λ j hj=>eU j (λ e=>by subst e;rw[hs i] at hj;cases hj)) (λ _ h=>h) (λ _ _=>rfl)
  aJ:=λ i o' cG=>by
   by_cases hi:i=id
   .subst hi;simp only[b6M,b4L] at cG;subst cG;trivial
   .simp only[b4Z hi] at cG;exact (h.aJ i o' cG).mono (by simp only[b4Z hi]) (λ _ _=>rfl) (λ j hj=>eU j (λ e=>by subst e;rw[ho i o' cG] at hj;cases hj)) (λ _ h=>h) (λ _ _=>rfl)
  place:=λ i o' b cG hb=>by
   obtain⟨hi,hb⟩:=jA i b hb;simp only[b4Z hi] at cG;exact h.place i o' b cG hb
  apart:=λ i j o1 o2 b cG NG hb cA=>by
   obtain⟨hi,hb⟩:=jA i b hb;obtain⟨hj,cA⟩:=jA j b cA;simp only[b4Z hi] at cG;simp only[b4Z hj] at NG;exact h.apart i j o1 o2 b cG NG hb cA
  aL:={
   tr:=λ j bf cS k=>by
    by_cases hj:j=id
    .subst hj;simp only[b6M,b4L,aB.av.injEq] at k ⊢;obtain⟨rfl,k⟩:=k;have k:=b7O k;subst k;exact hT
    .simp only[b4Z hj];exact h.aL.tr j bf cS (hold j bf cS k hj)
   nd:=λ j bf cS k=>by
    by_cases hj:j=id
    .simp only[b5u hj];exact cR
    .simp only[b4Z hj];exact h.aL.nd j bf cS (hold j bf cS k hj)
   pl:=λ j bf cS b k hb=>by
    have fin:(∀ i o,lk i=some o->ef (G.η i)≠some b)->∀ i o,(if i=id then some (aB.av τ xs) else lk i)=some o->ef (if i=id then η0 else G.η i)≠some b:=λ hh i o cG e=>by
     obtain⟨hi,e⟩:=jA i b e;rw[b4Z hi] at cG;exact hh i o cG e
    by_cases hj:j=id
    .simp only[b5u hj] at hb;obtain⟨q1,q2,q3,q4,q5⟩:=WK b hb;exact⟨q1,q2,q3,fin q4⟩
    .simp only[b4Z hj] at hb;obtain⟨q1,q2,q3,q4⟩:=h.aL.pl j bf cS b (hold j bf cS k hj) hb;exact⟨q1,q2,q3,fin q4⟩
   ap:=λ j j' Y3 kW Y2 ny b k k' hb cA=>by
    by_cases hj:j=id
    .by_cases IQ:j'=id
     .rw[hj,IQ]
     .simp only[b5u hj] at hb;simp only[b4Z IQ] at cA;exact absurd cA ((WK b hb).2.2.2.2 j' kW ny (hold j' kW ny k' IQ))
    .by_cases IQ:j'=id
     .simp only[b4Z hj] at hb;simp only[b5u IQ] at cA;exact absurd hb ((WK b cA).2.2.2.2 j Y3 Y2 (hold j Y3 Y2 k hj))
     .simp only[b4Z hj] at hb;simp only[b4Z IQ] at cA;exact h.aL.ap j j' Y3 kW Y2 ny b (hold j Y3 Y2 k hj) (hold j' kW ny k' IQ) hb cA }
  root:=λ j v hr ht=>by
   have eR:j≠id:=λ e=>by subst e;rw[b3j] at hr;cases hr
   simp only[b4Z eR] at ht ⊢;exact h.root j v hr ht
  ic:=h.ic
  dm:=λ j v hr ht=>by
   by_cases hj:j=id
   .simp only[b5u hj] at ht;cases ht
   .simp only[b4Z hj] at ht ⊢;exact h.dm j v hr ht
  eN:=h.eN }
def wY(c:Ctx)(G:Gh)(lk:Nat->Option aB)(w:World)(b:Nat):Prop :=
 (c.w0.heap.size<=b\/c.X b)/\¬ G.S b/\b<w.heap.size/\(∀ i o,lk i=some o->ef (G.η i)≠some b)/\∀ j τ xs,lk j=some (.av τ xs)->b∉G.φ j
structure LF(c:Ctx)(G:Gh)(lk lk':Nat->Option aB)(w w':World)(rm:Nat->Value)(pj:Nat->List Nat)(I:Nat->Prop):Prop where
 same:∀ id,¬ I id->lk' id=lk id/\rm id=G.η id/\pj id=G.φ id
 av:∀ id,I id->∃ τ xs cS v l l',lk id=some (.av τ xs)/\lk' id=some (.av τ cS)/\G.η id = .tuple (v::l).toArray/\rm id = .tuple (v::l').toArray/\ie w' (rm id) τ cS (pj id)/\(pj id).Nodup
 b0F:∀ id b,I id->b∈pj id->(∃ dy,I dy/\b∈G.φ dy)\/wY c G lk w' b
 apart:∀ id dy b,I id->I dy->b∈pj id->b∈pj dy->id=dy
 heap:∀ b,b<w.heap.size->(∀ id,I id->b∉G.φ id)->w'.heap[b]?=w.heap[b]?
 os:w'.os=w.os
 tape:w'.tape=w.tape
 output:w'.output=w.output
 size:w.heap.size<=w'.heap.size
theorem wY.grow{lk:Nat->Option aB}{b:Nat}(h:wY c G lk w b)(hs:w.heap.size<=w'.heap.size):wY c G lk w' b :=
 ⟨h.1,h.2.1,b5i h.2.2.1 hs,h.2.2.2⟩
theorem LF.b2p{rm:Nat->Value}{pj:Nat->List Nat}{I:Nat->Prop}{lk':Nat->Option aB}(t:LF c G lk lk' w w' rm pj I)(id:Nat):eK (lk id) (lk' id):=by
 by_cases hi:I id
 .obtain⟨τ,xs,cS,_,_,_,h1,h2,_⟩:=t.av id hi;rw[h1,h2];exact⟨λ h=>(by cases h),(λ e τ xs h=>by cases h),(λ _=>rfl),λ hh=>by cases hh⟩
 .rw[(t.same id hi).1];exact eK.refl _
theorem C1.fc{rm:Nat->Value}{pj:Nat->List Nat}{I:Nat->Prop}{lk':Nat->Option aB}(t:LF c G lk lk' w w' rm pj I)(cw:∀ b,St c G.S b->w'.heap[b]?=w.heap[b]?){u:AV}{x:Value}(hu:u.Rg=false)(h:C1 c G lk w u x):C1 c ⟨G.S,rm,pj⟩ lk' w' u x:=by
 have key:(∀ id,u.refs id=true->¬ I id)->C1 c ⟨G.S,rm,pj⟩ lk' w' u x:=λ hk=>h.mono (λ id aY=>⟨t.b2p id,(t.same id (hk id aY)).2.1⟩) (λ _ h=>h) cw;have noT:∀ id,cx (lk id)=false->¬ I id:=λ id hn hi=>by
  obtain⟨τ,xs,_,_,_,_,h1,_⟩:=t.av id hi;rw[h1] at hn;cases hn
 cases u with
 | av id =>
  obtain⟨h1,l,h2,h3⟩:=h;by_cases hi:I id
  .obtain⟨τ,xs,cS,v,l0,l',k1,k2,k3,k4,_⟩:=t.av id hi;rw[k3] at h2;simp only[b6r,b8u,b4X] at h2;obtain⟨rfl,_⟩:=h2;exact⟨by rw[k2];rfl,l',k4,h3⟩
  .exact key λ j hj=>by
    have:=b4O (show Nat.beq id j=true from hj);subst this;exact hi
 | eP id i off sz =>
  obtain⟨h1,b,n,cap,l,h2,h3⟩:=h;by_cases hi:I id
  .obtain⟨τ,xs,cS,v,l0,l',k1,k2,k3,k4,_⟩:=t.av id hi;rw[k3] at h2;simp only[b6r,b8u,b4X] at h2;obtain⟨rfl,_⟩:=h2;exact⟨by rw[k2];rfl,b,n,cap,l',k4,h3⟩
  .exact key λ j hj=>by
    have:=b4O (show Nat.beq id j=true from hj);subst this;exact hi
 | sub id i off sz=>cases hu
 | ptr id off =>
  refine key λ j hj=>?_;have:=b4O (show Nat.beq id j=true from hj);subst this;obtain⟨_,_,_,h3⟩:=h;exact noT id (by match hl:lk id,h3 with|some (.box _),_=>rfl)
 | row id =>
  refine key λ j hj=>?_;have:=b4O (show Nat.beq id j=true from hj);subst this;exact noT id (ti h.2.1)
 | eH id i off =>
  refine key λ j hj=>?_;have:=b4O (show Nat.beq id j=true from hj);subst this;obtain⟨_,_,_,_,_,_,_,h3,_⟩:=h;exact noT id (by rw[h3];rfl)
 | mp id =>
  refine key λ j hj=>?_;have:=b4O (show Nat.beq id j=true from hj);subst this;exact noT id (Ma h.2.1)
 | agg cs=>exact h.elim
 | iS cs=>exact h.elim
 | dc f cs=>exact h.elim
 | _=>exact key λ j hj=>by cases hj
theorem pd:∀ {cs:List AV} {v:AV},AV.pc cs=false->v∈cs->v.Rg=false
 | u::r,v,h,hm=>by
  simp only[AV.pc] at h;split at h
  .cases h
  .rename_i hu;rcases b5h.1 hm with rfl|hm
   .exact hu
   .exact pd h hm
theorem CR.fc{rm:Nat->Value}{pj:Nat->List Nat}{I:Nat->Prop}{lk':Nat->Option aB}(t:LF c G lk lk' w w' rm pj I)(cw:∀ b,St c G.S b->w'.heap[b]?=w.heap[b]?){u:AV}{x:Value}(hu:u.Rg=false)(h:CR c G lk w u x):CR c ⟨G.S,rm,pj⟩ lk' w' u x:=by
 cases u with
 | aH v=>exact dV.mono (G:=G) (G':=⟨G.S,rm,pj⟩) h (λ _ h=>h) (λ b hb=>cw b (.inl hb))
 | agg cs =>
  obtain⟨l,h1,h2⟩:=h;exact⟨l,h1,h2.imp λ u y hm hy=>hy.fc t cw (pd (show AV.pc cs=false from hu) hm)⟩
 | _=>exact C1.a2W (C1.fc t cw hu h)
theorem VR.fc{rm:Nat->Value}{pj:Nat->List Nat}{I:Nat->Prop}{lk':Nat->Option aB}(t:LF c G lk lk' w w' rm pj I)(cw:∀ b,St c G.S b->w'.heap[b]?=w.heap[b]?){u:AV}{x:Value}(hu:u.Rg=false)(h:VR c G lk w u x):VR c ⟨G.S,rm,pj⟩ lk' w' u x:=by
 cases u with
 | aH v=>exact dV.mono (G:=G) (G':=⟨G.S,rm,pj⟩) h (λ _ h=>h) (λ b hb=>cw b (.inl hb))
 | agg cs =>
  obtain⟨l,h1,h2⟩:=h;exact⟨l,h1,h2.imp λ u y hm hy=>hy.fc t cw (pd (show AV.pc cs=false from hu) hm)⟩
 | iS vs =>
  obtain⟨l,h1,h2⟩:=h;refine⟨l,h1,h2.imp λ u y hm hy=>?_⟩;have hu':=pd (show AV.pc vs=false from hu) hm;cases u with
  | any=>trivial
  | aH v=>exact dV.mono (G:=G) (G':=⟨G.S,rm,pj⟩) hy (λ _ h=>h) (λ b hb=>cw b (.inl hb))
  | av i=>exact C1.fc (u := .av i) t cw rfl hy
  | cX v=>exact C1.fc (u := .cX v) t cw rfl hy
  | agg cs =>
   obtain⟨l,h1,h2⟩:=hy;exact⟨l,h1,h2.imp λ u y hm hy=>hy.fc t cw (pd (show AV.pc cs=false from hu') hm)⟩
  | _=>exact hy.elim
 | any=>trivial
 | ep=>exact h
 | nil=>exact (C1.fc (u := .nil) t cw hu h).fU
 | cX u=>exact (C1.fc (u := .cX u) t cw hu h).fU
 | ptr i o=>exact (C1.fc (u := .ptr i o) t cw hu h).fU
 | row i=>exact (C1.fc (u := .row i) t cw hu h).fU
 | eH i k o=>exact (C1.fc (u := .eH i k o) t cw hu h).fU
 | fn f=>exact (C1.fc (u := .fn f) t cw hu h).fU
 | av i=>exact (C1.fc (u := .av i) t cw hu h).fU
 | sub i k o z=>cases hu
 | mp i=>exact (C1.fc (u := .mp i) t cw hu h).fU
 | eP i k o z=>exact (C1.fc (u := .eP i k o z) t cw hu h).fU
 | iF v=>exact (C1.fc (u := .iF v) t cw hu h).fU
 | dc f cs =>
  obtain⟨l,h1,h2⟩:=h;exact⟨l,h1,h2.imp λ u y hm hy=>hy.fc t cw (pd (show AV.pc cs=false from hu) hm)⟩
theorem bw.fc(h:bw c G sl n lk a w){rm:Nat->Value}{pj:Nat->List Nat}{I:Nat->Prop}{lk':Nat->Option aB}(t:LF c G lk lk' w w' rm pj I)(hs:∀ i,(sl i).Rg=false)(IL:∀ id cs,lk id=some (.box cs)->AV.pc cs=false) :
  bw c ⟨G.S,rm,pj⟩ sl n lk' a w':=by
 have pl:∀ id b,I id->b∈G.φ id->(c.w0.heap.size<=b\/c.X b)/\¬ G.S b/\b<w.heap.size/\∀ i o,lk i=some o->ef (G.η i)≠some b:=λ id b hi hb=>by
  obtain⟨τ,xs,_,_,_,_,h1,_⟩:=t.av id hi;exact h.aL.pl id τ xs b h1 hb
 have a5g:∀ b,b<w.heap.size->((c.w0.heap.size<=b\/c.X b)->False)->w'.heap[b]?=w.heap[b]?:=λ b hb hn=>t.heap b hb λ id hi iG=>hn (pl id b hi iG).1;have cw:∀ b,St c G.S b->w'.heap[b]?=w.heap[b]?:=λ b hb=>by
  rcases hb with hb|hb
  .exact t.heap b (h.dB b hb) λ id hi iG=>(pl id b hi iG).2.1 hb
  .exact a5g b (b5i hb.1 h.aR.size) λ hn=>hn.elim (λ q=>by omega) hb.2.1
 have jA:∀ id o b,lk id=some o->ef (G.η id)=some b->w'.heap[b]?=w.heap[b]?:=λ id o b ho hb =>
  t.heap b (h.place id o b ho hb).2.2 λ j hj iG=>(pl j b hj iG).2.2.2 id o ho hb
 have ec:∀ id b,ef (rm id)=some b->¬ I id/\ef (G.η id)=some b:=λ id b hb=>by
  by_cases hi:I id
  .obtain⟨_,_,_,_,_,_,_,_,_,h4,_⟩:=t.av id hi;rw[h4] at hb;cases hb
  .rw[(t.same id hi).2.1] at hb;exact⟨hi,hb⟩
 have jM:∀ id τ xs b,lk' id=some (.av τ xs)->b∈pj id->(∃ dy bf cS,lk dy=some (.av bf cS)/\b∈G.φ dy/\(¬ I id->dy=id)/\(I id->I dy))\/(I id/\wY c G lk w' b):=λ id τ xs b aY hb=>by
  by_cases hi:I id
  .rcases t.b0F id b hi hb with ⟨dy,nU,cA⟩|hfr
   .obtain⟨bf,cS,_,_,_,_,h1,_⟩:=t.av dy nU;exact .inl ⟨dy,bf,cS,h1,cA,λ hn=>absurd hi hn,λ _=>nU⟩
   .exact .inr ⟨hi,hfr⟩
  .obtain⟨h1,h2,h3⟩:=t.same id hi;rw[h1] at aY;rw[h3] at hb;exact .inl ⟨id,τ,xs,aY,hb,λ _=>rfl,λ nU=>absurd nU hi⟩
 exact {
  defers:=h.defers,size:=h.size
  aR:=h.aR.trans (Y:=λ b=>c.w0.heap.size<=b\/c.X b) ⟨t.os,t.tape,t.output,t.size,λ b hb hn=>a5g b hb hn⟩ λ i hi hy=>hy.elim (λ q=>by omega) id
  jf:=h.jf,dT:=h.dT,sX:=h.sX
  dB:=λ b hb=>b5i (h.dB b hb) t.size
  aC:=λ i=>(h.aC i).fc t cw (hs i)
  aJ:=λ id o aY=>by
   by_cases hi:I id
   .obtain⟨τ,xs,cS,_,_,_,_,h2,_⟩:=t.av id hi;rw[h2] at aY;simp only[b4L] at aY;subst aY;trivial
   .obtain⟨h1,h2,h3⟩:=t.same id hi;rw[h1] at aY;have ho:=h.aJ id o aY;cases o with
    | box cs =>
     obtain⟨b,l,ty,k1,k2,k3⟩:=ho;refine⟨b,l,ty,h2.trans k1,?_,k3.imp λ u y hm hy=>hy.fc t cw (pd (IL id cs aY) hm)⟩;rw[jA id _ b aY (by rw[k1];rfl)];exact k2
    | row e τ xs =>
     obtain⟨l,k1,k2,k3⟩:=ho;refine⟨l,?_,dU.aR (λ _ h=>h) (λ b hb=>cw b (.inl hb)) _ k2,k3⟩;rw[show (⟨G.S,rm,pj⟩:Gh).η id=G.η id from h2];exact Mh k1 λ b hb=>jA id _ b aY hb
    | av τ xs=>trivial
    | map m =>
     obtain⟨b,es,clock,k1,k2,k3⟩:=ho;exact⟨b,es,clock,h2.trans k1,(jA id _ b aY (by rw[k1];rfl)).trans k2,k3⟩
  place:=λ id o b aY hb=>by
   obtain⟨hi,hb⟩:=ec id b hb;rw[(t.same id hi).1] at aY;obtain⟨q1,q2,q3⟩:=h.place id o b aY hb;exact⟨q1,q2,b5i q3 t.size⟩
  apart:=λ id dy o o' b aY IP hb cA=>by
   obtain⟨hi,hb⟩:=ec id b hb;obtain⟨nU,cA⟩:=ec dy b cA;rw[(t.same id hi).1] at aY;rw[(t.same dy nU).1] at IP;exact h.apart id dy o o' b aY IP hb cA
  aL:={
   tr:=λ id τ xs aY=>by
    by_cases hi:I id
    .obtain⟨τ0,xs0,cS,v,l,l',h1,h2,h3,h4,h5,h6⟩:=t.av id hi;rw[h2] at aY;simp only[b4L,aB.av.injEq] at aY;obtain⟨rfl,aY⟩:=aY;have aY:=b7O aY;subst aY;exact h5
    .obtain⟨h1,h2,h3⟩:=t.same id hi;rw[h1] at aY;rw[show (⟨G.S,rm,pj⟩:Gh).η id=G.η id from h2,show (⟨G.S,rm,pj⟩:Gh).φ id=G.φ id from h3];exact (h.aL.tr id τ xs aY).aR λ b hb=>t.heap b (h.aL.pl id τ xs b aY hb).2.2.1 λ j hj iG=>by
      obtain⟨bf,cS,_,_,_,_,k1,_⟩:=t.av j hj;have:=h.aL.ap id j τ bf xs cS b aY k1 hb iG;subst this;exact hi hj
   nd:=λ id τ xs aY=>by
    by_cases hi:I id
    .obtain⟨_,_,_,_,_,_,_,_,_,_,_,h6⟩:=t.av id hi;exact h6
    .obtain⟨h1,h2,h3⟩:=t.same id hi;rw[h1] at aY;rw[show (⟨G.S,rm,pj⟩:Gh).φ id=G.φ id from h3];exact h.aL.nd id τ xs aY
   pl:=λ id τ xs b aY hb=>by
    have hq:(c.w0.heap.size<=b\/c.X b)/\¬ G.S b/\b<w'.heap.size/\∀ i o,lk i=some o->ef (G.η i)≠some b:=by
     rcases jM id τ xs b aY hb with ⟨dy,bf,cS,k1,k2,_⟩|⟨_,f1,f2,f3,f4,_⟩
     .obtain⟨f1,f2,f3,f4⟩:=h.aL.pl dy bf cS b k1 k2;exact⟨f1,f2,b5i f3 t.size,f4⟩
     .exact⟨f1,f2,f3,f4⟩
    obtain⟨q1,q2,q3,q4⟩:=hq;refine⟨q1,q2,q3,λ i o cG qp=>?_⟩;obtain⟨hi,qp⟩:=ec i b qp;rw[(t.same i hi).1] at cG;exact q4 i o cG qp
   ap:=λ id dy τ bf xs cS b aY IP hb cA=>by
    by_cases hi:I id
    .by_cases nU:I dy
     .exact t.apart id dy b hi nU hb cA
     .rcases jM dy bf cS b IP cA with ⟨j',kW,ny,m1,m2,m3,_⟩|⟨q,_⟩
      .rcases jM id τ xs b aY hb with ⟨j,Y3,Y2,k1,k2,_,k4⟩|⟨_,hfr⟩
       .have:=h.aL.ap j j' _ _ _ _ b k1 m1 k2 m2;have e:=m3 nU;subst e this;exact absurd (k4 hi) nU
       .exact absurd m2 (hfr.2.2.2.2 j' kW ny m1)
      .exact absurd q nU
    .by_cases nU:I dy
     .rcases jM id τ xs b aY hb with ⟨j,Y3,Y2,k1,k2,k3,_⟩|⟨q,_⟩
      .rcases jM dy bf cS b IP cA with ⟨j',kW,ny,m1,m2,_,m4⟩|⟨_,hfr⟩
       .have:=h.aL.ap j j' _ _ _ _ b k1 m1 k2 m2;have e:=k3 hi;subst e this;exact absurd (m4 nU) hi
       .exact absurd k2 (hfr.2.2.2.2 j Y3 Y2 k1)
      .exact absurd q hi
     .rcases jM id τ xs b aY hb with ⟨j,Y3,Y2,k1,k2,k3,_⟩|⟨q,_⟩
      .rcases jM dy bf cS b IP cA with ⟨j',kW,ny,m1,m2,m3,_⟩|⟨q,_⟩
       .have:=h.aL.ap j j' _ _ _ _ b k1 m1 k2 m2;exact (k3 hi).symm.trans (this.trans (m3 nU))
       .exact absurd q nU
      .exact absurd q hi }
  root:=λ id v hr ht=>by
   by_cases hi:I id
   .obtain⟨τ,xs,cS,v0,l,l',k1,k2,k3,k4,_⟩:=t.av id hi;obtain⟨l2,h2⟩:=h.root id v hr (by rw[k1];rfl);rw[k3] at h2;simp only[b6r,b8u,b4X] at h2;obtain⟨rfl,_⟩:=h2;exact⟨l',k4⟩
   .obtain⟨h1,h2,_⟩:=t.same id hi;rw[h1] at ht;rw[show (⟨G.S,rm,pj⟩:Gh).η id=G.η id from h2];exact h.root id v hr ht
  ic:=h.ic
  dm:=λ id v hr ht=>by
   by_cases hi:I id
   .obtain⟨τ,xs,cS,v0,l,l',k1,k2,k3,k4,_⟩:=t.av id hi;rw[k2] at ht;cases ht
   .obtain⟨h1,h2,_⟩:=t.same id hi;rw[h1] at ht;rw[show (⟨G.S,rm,pj⟩:Gh).η id=G.η id from h2];exact h.dm id v hr ht
  eN:=h.eN }
theorem bw.XI(h:bw c G sl n lk a w){d:Nat}(hd:lk d=none):(∀ i,(sl i).refs d=false)/\∀ i o,lk i=some o->o.refs d=false:=by
 have c1:∀ (v:AV) (x:Value),C1 c G lk w v x->v.refs d=true->False:=λ v x hv hr=>by
  have fM:∀ i,Nat.beq i d=true->gi (lk i)=false/\isRow (lk i)=false/\cx (lk i)=false/\∀ e τ xs,lk i≠some (.row e τ xs):=λ i hi=>by
   have:=b4O hi;subst this;rw[hd];exact⟨rfl,rfl,rfl,λ _ _ _=>by simp⟩
  cases v with
  | ptr i o=>obtain⟨_,_,_,h3⟩:=hv;rw[(fM i hr).1] at h3;cases h3
  | row i=>obtain⟨_,h3,_⟩:=hv;rw[(fM i hr).2.1] at h3;cases h3
  | eH i k o=>obtain⟨_,_,_,_,_,_,_,h3,_⟩:=hv;exact (fM i hr).2.2.2 _ _ _ h3
  | av i=>have h3:=hv.1;rw[(fM i hr).2.2.1] at h3;cases h3
  | sub i k o z=>have h3:=hv.1;rw[(fM i hr).2.2.1] at h3;cases h3
  | eP i k o z=>have h3:=hv.1;rw[(fM i hr).2.2.1] at h3;cases h3
  | mp i =>
   have h3:=hv.2.1;have:=b4O (show Nat.beq i d=true from hr);subst this;rw[hd] at h3;cases h3
  | agg cs=>exact hv
  | iS cs=>exact hv
  | dc f cs=>exact hv
  | _=>cases hr
 have cL:∀ (cs:List AV) (l:List Value),aT (C1 c G lk w) cs l->AV.gl d cs=true->False:=by
  intro cs;induction cs with
  | nil=>intro l _ hr;cases hr
  | cons v r ih =>
   intro l hl hr;match l,hl with
   | x::l,hl =>
    simp only[AV.gl] at hr;split at hr
    .rename_i hv;exact c1 v x hl.1 hv
    .exact ih l hl.2 hr
 refine⟨λ i=>?_,λ i o ho=>?_⟩
 .cases hr:(
        sl i).refs d with
  | false=>rfl
  | true =>
   have hv:=h.aC i;revert hv hr;generalize a.tmps.getD i undef=x;cases sl i with
   | aH u=>intro hr;cases hr
   | agg cs =>
    intro hr hv;obtain⟨l,_,hl⟩:=hv;exact (cL cs l hl hr).elim
   | iS vs =>
    intro hr hv;obtain⟨l,_,hl⟩:=hv;have:∀ (
         vs:List AV) (l:List Value),aT (TR c G lk w) vs l->AV.gl d vs=true->False:=by
     intro vs;induction vs with
     | nil=>intro l _ hr;cases hr
     | cons v r ih =>
      intro l hl hr;match l,hl with
      | x::l,hl =>
       simp only[AV.gl] at hr;split at hr
       .rename_i hv;have h1:=hl.1;cases v with
        | av i=>exact c1 (.av i) x h1 hv
        | agg cs =>
         obtain⟨l',_,mV⟩:=h1;exact cL cs l' mV hv
        | aH u=>cases hv
        | cX u=>cases hv
        | any=>cases hv
        | _=>exact h1
       .exact ih l hl.2 hr
    exact (this vs l hl hr).elim
   | dc f vs =>
    intro hr hv;obtain⟨l,_,hl⟩:=hv;have:∀ (vs:List AV) (l:List Value),aT (CR c G lk w) vs l->AV.gl d vs=true->False:=by
     intro vs;induction vs with
     | nil=>intro l _ hr;cases hr
     | cons v r ih =>
      intro l hl hr;match l,hl with
      | x::l,hl =>
       simp only[AV.gl] at hr;split at hr
       .rename_i hv;rcases hl.1.inv with ⟨u,rfl,_⟩|⟨cs,l',rfl,_,mV⟩|h1
        .cases hv
        .exact cL cs l' mV hv
        .exact c1 _ x h1 hv
       .exact ih l hl.2 hr
    exact (this vs l hl hr).elim
   | any=>intro hr;cases hr
   | ep=>intro hr;cases hr
   | nil=>intro hr;cases hr
   | cX u=>intro hr;cases hr
   | fn f=>intro hr;cases hr
   | iF v=>intro hr;cases hr
   | ptr i o=>intro hr hv;exact (c1 (.ptr i o) x hv hr).elim
   | row i=>intro hr hv;exact (c1 (.row i) x hv hr).elim
   | eH i k o=>intro hr hv;exact (c1 (.eH i k o) x hv hr).elim
   | av i=>intro hr hv;exact (c1 (.av i) x hv hr).elim
   | sub i k o z=>intro hr hv;exact (c1 (.sub i k o z) x hv hr).elim
   | eP i k o z=>intro hr hv;exact (c1 (.eP i k o z) x hv hr).elim
   | mp i=>intro hr hv;exact (c1 (.mp i) x hv hr).elim
 .cases hr:o.refs d with
  | false=>rfl
  | true =>
   cases o with
   | row e τ xs=>cases hr
   | av τ xs=>cases hr
   | map m=>cases hr
   | box cs =>
    obtain⟨b,l,t,_,_,k3⟩:=h.aJ i _ ho;exact (cL cs l k3 hr).elim
structure Ext(G:Gh)(lk:Nat->Option aB)(G':Gh)(lk':Nat->Option aB):Prop where
 S:G'.S=G.S
 old:∀ i o,lk i=some o->lk' i=some o/\G'.η i=G.η i/\G'.φ i=G.φ i
theorem Ext.refl(G:Gh)(lk:Nat->Option aB):Ext G lk G lk:=⟨rfl,λ _ _ h=>⟨h,rfl,rfl⟩⟩
theorem Ext.trans{G1 G2 G3:Gh}{l1 l2 l3:Nat->Option aB}(h:Ext G1 l1 G2 l2)(k:Ext G2 l2 G3 l3):Ext G1 l1 G3 l3 :=
 ⟨k.S.trans h.S,λ i o ho=>by
  obtain⟨a1,a2,a3⟩:=h.old i o ho;obtain⟨b1,b2,b3⟩:=k.old i o a1;exact⟨b1,b2.trans a2,b3.trans a3⟩⟩
theorem C1.ext{G':Gh}{lk':Nat->Option aB}(e:Ext G lk G' lk'){v:AV}{x:Value}(h:C1 c G lk w v x):C1 c G' lk' w v x:=by
 refine h.mono (λ id aY=>?_) (λ b hb=>by rw[e.S];exact hb) (λ _ _=>rfl);have eR:lk id≠none:=λ hn=>by
  cases v with
  | ptr i o=>have:=b4O (show Nat.beq i id=true from aY);subst this;obtain⟨_,_,_,h3⟩:=h;rw[hn] at h3;cases h3
  | row i=>have:=b4O (show Nat.beq i id=true from aY);subst this;obtain⟨_,h3,_⟩:=h;rw[hn] at h3;cases h3
  | eH i k o=>have:=b4O (show Nat.beq i id=true from aY);subst this;obtain⟨_,_,_,_,_,_,_,h3,_⟩:=h;rw[hn] at h3;cases h3
  | av i=>have:=b4O (show Nat.beq i id=true from aY);subst this;have h3:=h.1;rw[hn] at h3;cases h3
  | sub i k o z=>have:=b4O (show Nat.beq i id=true from aY);subst this;have h3:=h.1;rw[hn] at h3;cases h3
  | eP i k o z=>have:=b4O (show Nat.beq i id=true from aY);subst this;have h3:=h.1;rw[hn] at h3;cases h3
  | mp i=>have:=b4O (show Nat.beq i id=true from aY);subst this;have h3:=h.2.1;rw[hn] at h3;cases h3
  | agg cs=>exact h
  | iS cs=>exact h
  | dc f cs=>exact h
  | _=>cases aY
 match hl:lk id,eR with
 | some o,_ =>
  obtain⟨h1,h2,_⟩:=e.old id o hl;rw[h1];exact⟨eK.refl _,h2⟩
def Fr(c:Ctx)(G:Gh)(lk:Nat->Option aB)(w:World)(fp:List Nat):Prop :=
 ∀ b∈fp,(c.w0.heap.size<=b\/c.X b)/\¬ G.S b/\b<w.heap.size/\(∀ i o,lk i=some o->ef (G.η i)≠some b)/\∀ j τ xs,lk j=some (.av τ xs)->b∉G.φ j
def gj(news:List (Nat×aB))(lk:Nat->Option aB)(i:Nat):Option aB:=match ah news i with
 | some o=>some o
 | none=>lk i
theorem a8i(lk:Nat->Option aB):gj [] lk=lk:=rfl
theorem a6h(id:Nat)(o:aB)(r:List (Nat×aB))(lk:Nat->Option aB)(hr:ah r id=none):gj r (λ i=>if i=id then some o else lk i)=gj ((id,o)::r) lk:=by
 funext i;unfold gj;rw[dF];by_cases hi:i=id
 .subst hi;rw[hr];simp
 .simp[hi]
theorem TN:∀ (r r':List (Nat×aB)) (lk:Nat->Option aB),gj (r++r') lk=gj r (gj r' lk)
 | [],r',lk=>rfl
 | (id,o)::r,r',lk=>by
  funext i;have:=congrFun (TN r r' lk) i;unfold gj at this ⊢;rw[List.cons_append,dF,dF];by_cases hi:i=id
  .simp[hi]
  .simpa [hi] using this
theorem ie.XK{τ:Ty}{xs:List τ.den}{x:Value}{fp:List Nat}(h:Ow w (.slice τ.size (xs.map τ.aP)) [x] fp):∃ l,ie w (.tuple (x::l).toArray) τ xs fp/\∃ a n m,x = .slice a n m:=by
 obtain⟨a',cap,h1,h2,h3,h4,h5⟩:=h;simp only[b4X,b5d,b5g] at h1 h2 h4;subst h1;rcases h5 with ⟨hx,ha,hf⟩|⟨b,f,l,t,ha,hf,k1,k2⟩
 .refine⟨[],⟨_,[],a',cap,rfl,rfl,h2,h3,h4, .inl ⟨?_,ha,hf⟩⟩,_,_,_,rfl⟩;simpa using hx
 .exact⟨l,⟨_,l,a',cap,rfl,rfl,h2,h3,h4, .inr ⟨b,f,t,ha,hf,k1,k2⟩⟩,_,_,_,rfl⟩
theorem Ow.a0R{η:Value}{τ:Ty}{xs:List τ.den}{fp:List Nat}(h:ie w η τ xs fp){x:Value}{l:List Value}(hx:η = .tuple (x::l).toArray):Ow w (.slice τ.size (xs.map τ.aP)) [x] fp:=by
 obtain⟨v,l',a',cap,h1,h2,h3,h4,h5,h6⟩:=h;rw[hx] at h1;simp only[Value.tuple.injEq,List.toArray_inj,List.cons.injEq] at h1;obtain⟨rfl,rfl⟩:=h1;refine⟨a',cap,by simp[h2],by simpa using h3,h4,by simpa using h5,?_⟩;rcases h6 with ⟨rfl,q1,q2⟩|⟨b,f,t,q1,q2,q3,q4⟩
 .exact .inl ⟨rfl,q1,q2⟩
 .exact .inr ⟨b,f,l,t,q1,q2,q3,q4⟩
theorem fC:∀ {l:List (Nat×aB)} {id:Nat} {o:aB},ah l id=some o->(id,o)∈l
 | (k,p)::r,id,o,h=>by
  simp only[ah] at h;split at h
  .rename_i hk;have hk:=b4O hk;simp only[b4L] at h;subst hk h;simp
  .exact b6l _ (fC h)
theorem bw.a6V(h:bw c G sl n lk a w){u:TV}(hu:u.τ.agg=false){x:Value}{fp:List Nat}{id:Nat}(hO:Ow w u.aP [x] fp)(cR:fp.Nodup)(hF:Fr c G lk w fp)(aY:∀ p∈fJ id u,lk p.1=none)(hR:c.R id=none) :
  ∃ G',bw c G' sl n (gj (fJ id u) lk) a w/\Ext G lk G' (gj (fJ id u) lk)/\C1 c G' (gj (fJ id u) lk) w (iQ id u) x /\
   ∀ fq,Fr c G lk w fq->(∀ b∈fq,b∉fp)->Fr c G' (gj (fJ id u) lk) w fq:=by
 have ur:(fJ id u=[]/\iQ id u = .aH u)->∃ G',bw c G' sl n (gj (fJ id u) lk) a w/\Ext G lk G' (gj (fJ id u) lk)/\C1 c G' (gj (fJ id u) lk) w (iQ id u) x /\
   ∀ fq,Fr c G lk w fq->(∀ b∈fq,b∉fp)->Fr c G' (gj (fJ id u) lk) w fq:=by
  rintro⟨e1,e2⟩;rw[e1,e2];exact⟨G,h,Ext.refl _ _,⟨hu,hO.rd (S:=λ b=>b∈fp) _ (λ _ h=>h) |> λ hr=>by
   obtain⟨τ,y⟩:=u;cases τ with
   | slice t=>simp[fJ] at e1
   | mv t=>simp[iQ] at e2
   | ptr=>exact hr
   | st s=>cases hu
   | int k=>exact hr
   | bool=>exact hr
   | str=>exact hr⟩,λ fq hq _=>hq⟩
 obtain⟨τ,y⟩:=u;cases τ with
 | mv t=>exact⟨G,h,Ext.refl _ _,ae,λ fq hq _=>hq⟩
 | slice t =>
  obtain⟨l,hT,Aq⟩:=ie.XK (τ:=t) (xs:=y) hO;have hn:lk id=none:=aY (id, .av t y) (by simp[fJ]);obtain⟨Uo,hr2⟩:=h.XI hn;have hI:=h.XD id t y _ fp hn Uo hr2 hR hT cR hF;have ct:gj (fJ id ⟨.slice t,y⟩) lk=λ i=>if i=id then some (.av t y) else lk i:=by
   rw[<-a8i (λ i=>if i=id then some (aB.av t y) else lk i),a6h id _ [] lk rfl];rfl
  rw[ct];refine⟨_,hI,⟨rfl,λ i o ho=>?_⟩,⟨by simp[cx],l,by simp,Aq⟩,λ fq hq A2 b hb=>?_⟩
  .have hi:i≠id:=λ e=>by subst e;rw[hn] at ho;cases ho
   simp[hi,ho]
  .obtain⟨q1,q2,q3,q4,q5⟩:=hq b hb;refine⟨q1,q2,q3,λ i o cG e=>?_,λ j τ xs hj=>?_⟩
   .by_cases hi:i=id
    .simp only[b5u hi] at e;cases e
    .simp only[b4Z hi] at cG e;exact q4 i o cG e
   .by_cases hi:j=id
    .simp only[b5u hi];exact A2 b hb
    .simp only[b4Z hi] at hj ⊢;exact q5 j τ xs hj
 | st s=>cases hu
 | ptr=>exact ur ⟨rfl,rfl⟩
 | int k=>exact ur ⟨rfl,rfl⟩
 | bool=>exact ur ⟨rfl,rfl⟩
 | str=>exact ur ⟨rfl,rfl⟩
theorem TP{id:Nat}{u:TV}{p:Nat×aB}(h:p∈fJ id u):p.1=id:=by
 obtain⟨τ,y⟩:=u;cases τ<;>simp[fJ] at h;rw[h]
theorem Xh{r:List (Nat×aB)}{i:Nat}(h:∀ p∈r,p.1≠i):ah r i=none:=by
 induction r with
 | nil=>rfl
 | cons p r ih =>
  obtain⟨k,o⟩:=p;rw[dF,b4Z (λ e=>h (k,o) (by simp) e.symm)];exact ih λ q hq=>h q (by simp[hq])
theorem bw.CN:∀ {us:List TV} {cs:List Value} {fp:List Nat} {id:Nat} {G:Gh} {lk:Nat->Option aB},bw c G sl n lk a w->(∀ u∈us,u.τ.agg=false)->cT w (us.map TV.aP) cs fp->fp.Nodup->Fr c G lk w fp ->
  (∀ p∈bX id us,lk p.1=none)->((bX id us).map (·.1)).Nodup->(∀ j,id<=j->c.R j=none) ->
  ∃ G' lk',(∀ i,lk' i=gj (bX id us) lk i)/\bw c G' sl n lk' a w/\Ext G lk G' lk'/\aT (C1 c G' lk' w) (cb id us) cs/\∀ fq,Fr c G lk w fq->(∀ b∈fq,b∉fp)->Fr c G' lk' w fq
 | [],cs,fp,id,G,lk,h,_,hO,_,_,_,_,_=>by
  obtain⟨rfl,rfl⟩:=hO;exact⟨G,lk,λ _=>rfl,h,Ext.refl _ _,ae,λ fq hq _=>hq⟩
 | u::us,cs,fp,id,G,lk,h,hu,hO,cR,hF,aY,rB,hR=>by
  obtain⟨v,r,f1,f2,rfl,rfl,h1,h2⟩:=hO;rw[b5s] at cR;obtain⟨kO,nd2,nd3⟩:=cR;simp only[bX,b6F] at rB;rw[b5s] at rB;obtain⟨d1,d2,d3⟩:=rB;obtain⟨G1,i1,e1,c1,fr1⟩:=h.a6V (id:=id) (hu u (by simp)) h1 kO (λ b hb=>hF b (by simp[hb])) (λ p hp=>aY p (by simp[bX,hp])) (hR id (b5w _));have eR:∀ p∈bX (id+1) us,ah (fJ id u) p.1=none:=λ p hp=>Xh λ q hq e=>d3 q.1 (b4W.2 ⟨q,hq,rfl⟩) p.1 (b4W.2 ⟨p,hp,rfl⟩) e;obtain⟨G2,lk2,k1,k2,k3,k4,k5⟩:=bw.CN (us:=us) (cs:=r) (fp:=f2) (id:=id+1) i1 (λ u hu'=>hu u (by simp[hu'])) h2 nd2
   (fr1 f2 (λ b hb=>hF b (by simp[hb])) (λ b hb cA=>nd3 b cA b hb rfl)) (λ p hp=>by unfold gj;rw[eR p hp];exact aY p (by simp[bX,hp])) d2 (λ j hj=>hR j (by omega))
  refine⟨G2,lk2,λ i=>?_,k2,e1.trans k3,⟨c1.ext k3,k4⟩,λ fq hq A2=>k5 fq (fr1 fq hq λ b hb cA=>A2 b hb (by simp[cA])) λ b hb cA=>A2 b hb (by simp[cA])⟩;rw[k1 i];simp only[bX];unfold gj;have b3k:∀ (r r':List (Nat×aB)) (j:Nat),ah (r++r') j=match ah r j with|some o=>some o|none=>ah r' j:=by
   intro r r' j;induction r with
   | nil=>rfl
   | cons p r ih =>
    obtain⟨k,o⟩:=p;rw[b6g,dF,dF];by_cases hj:j=k
    .simp[hj]
    .simpa [hj] using ih
  rw[b3k];cases hx:ah (bX (id+1) us) i with
  | none=>simp only[];cases ah (fJ id u) i<;>rfl
  | some o =>
   simp only[];have hm:=fC hx;rw[eR _ hm]
theorem Mt(s:aV)(y:s.den):∀ u∈s.cells y,u.τ.agg=false:=λ u hu=>by
 have:=aV.pE s y u hu;obtain⟨bf,z'⟩:=u;cases bf with
 | st s'=>simp[TV.aP,Ty.aP,aV.cz,D.leaf] at this
 | _=>rfl
theorem TR.ext{G':Gh}{lk':Nat->Option aB}(e:Ext G lk G' lk'){v:AV}{x:Value}(h:TR c G lk w v x):TR c G' lk' w v x:=by
 cases v with
 | any=>trivial
 | aH v=>exact dV.mono (G:=G) (G':=G') h (λ b hb=>by rw[e.S];exact hb) (λ _ _=>rfl)
 | av i=>exact C1.ext (c:=c) (w:=w) (v := .av i) e h
 | cX v=>exact C1.ext (c:=c) (w:=w) (v := .cX v) e h
 | agg cs =>
  obtain⟨l,h1,h2⟩:=h;exact⟨l,h1,h2.imp λ u y _ hy=>hy.ext e⟩
 | _=>exact h.elim
theorem TR.fU{v:AV}{x:Value}(h:TR c G lk w v x):VR c G lk w v x:=by
 cases v with
 | any=>trivial
 | aH v=>exact h
 | av i=>exact h
 | cX v=>exact h
 | agg cs=>exact h
 | _=>exact h.elim
theorem C1.b4c{id:Nat}{u:TV}{x:Value}(h:C1 c G lk w (iQ id u) x)(hu:u.τ.agg=false):TR c G lk w (iQ id u) x:=by
 obtain⟨τ,y⟩:=u;cases τ with
 | slice t=>exact h
 | mv t=>exact h
 | ptr=>exact h.2
 | st s=>cases hu
 | int k=>exact h.2
 | bool=>exact h.2
 | str=>exact h.2
theorem bw.OU{v:TV}{x:Value}{fp:List Nat}{id:Nat}{G:Gh}{lk:Nat->Option aB}(h:bw c G sl n lk a w)(hO:xH w v x fp)(cR:fp.Nodup)(hF:Fr c G lk w fp)
  (aY:∀ p∈bX id v.cells,lk p.1=none) (rB:((bX id v.cells).map (·.1)).Nodup) (hR:∀ j,id<=j->c.R j=none) :
  ∃ G' lk',(∀ i,lk' i=gj (bX id v.cells) lk i)/\bw c G' sl n lk' a w/\Ext G lk G' lk'/\TR c G' lk' w (eZ id v) x/\∀ fq,Fr c G lk w fq->(∀ b∈fq,b∉fp)->Fr c G' lk' w fq:=by
 have one:v.τ.agg=false->v.cells=[v]->eZ id v=iQ id v->Ow w v.aP [x] fp->∃ G' lk',(∀ i,lk' i=gj (bX id v.cells) lk i)/\bw c G' sl n lk' a w/\Ext G lk G' lk'/\TR c G' lk' w (eZ id v) x/\∀ fq,Fr c G lk w fq->(∀ b∈fq,b∉fp)->Fr c G' lk' w fq:=by
  intro hv hc hov hO;rw[hc] at aY rB;obtain⟨G',lk',k1,k2,k3,k4,k5⟩:=h.CN (us:=[v]) (cs:=[x]) (fp:=fp) (by simpa using hv) ⟨x,[],fp,[],rfl,by simp,hO,rfl,rfl⟩ cR hF aY rB hR;rw[hc,hov];exact⟨G',lk',k1,k2,k3,C1.b4c k4.1 hv,k5⟩
 obtain⟨τ,y⟩:=v;cases τ with
 | st s =>
  obtain⟨cs,rfl,hO⟩:=hO;rw[aV.cz] at hO;obtain⟨G',lk',k1,k2,k3,k4,k5⟩:=h.CN (us:=s.cells y) (cs:=cs) (fp:=fp) (Mt s y) hO cR hF aY rB hR;exact⟨G',lk',k1,k2,k3,⟨cs,rfl,k4⟩,k5⟩
 | slice t=>exact one rfl rfl rfl hO
 | mv t=>exact one rfl rfl rfl hO
 | ptr=>exact one rfl rfl rfl hO
 | int k=>exact one rfl rfl rfl hO
 | bool=>exact one rfl rfl rfl hO
 | str=>exact one rfl rfl rfl hO
theorem a6g{r r':List (Nat×aB)}(hd:∀ p∈r',ah r p.1=none)(lk:Nat->Option aB)(i:Nat):gj r' (gj r lk) i=gj (r++r') lk i:=by
 rw[TN];unfold gj;cases hx:ah r' i with
 | none=>rfl
 | some o =>
  have:=hd _ (fC hx);simp only[] at this ⊢;rw[this]
theorem bw.OV:∀ {vs:List TV} {xs:List Value} {fp:List Nat} {id:Nat} {G:Gh} {lk:Nat->Option aB},bw c G sl n lk a w->OP w vs xs fp->fp.Nodup->Fr c G lk w fp ->
  (∀ p∈bx id vs,lk p.1=none)->((bx id vs).map (·.1)).Nodup->(∀ j,id<=j->c.R j=none) ->
  ∃ G' lk',(∀ i,lk' i=gj (bx id vs) lk i)/\bw c G' sl n lk' a w/\Ext G lk G' lk'/\aT (TR c G' lk' w) (QW id vs) xs/\∀ fq,Fr c G lk w fq->(∀ b∈fq,b∉fp)->Fr c G' lk' w fq
 | [],[],fp,id,G,lk,h,_,_,_,_,_,_=>⟨G,lk,λ _=>rfl,h,Ext.refl _ _,ae,λ fq hq _=>hq⟩
 | v::vs,x::xs,fp,id,G,lk,h,hO,cR,hF,aY,rB,hR=>by
  obtain⟨f1,f2,rfl,h1,h2⟩:=hO;rw[b5s] at cR;obtain⟨kO,nd2,nd3⟩:=cR;simp only[bx,b6F] at rB;rw[b5s] at rB;obtain⟨d1,d2,d3⟩:=rB;obtain⟨G1,qK,l1,i1,e1,c1,fr1⟩:=h.OU (id:=id) h1 kO (λ b hb=>hF b (by simp[hb])) (λ p hp=>aY p (by simp[bx,hp])) d1 hR;have eR:∀ p∈bx (id+20) vs,ah (bX id v.cells) p.1=none:=λ p hp=>Xh λ q hq e=>d3 q.1 (b4W.2 ⟨q,hq,rfl⟩) p.1 (b4W.2 ⟨p,hp,rfl⟩) e;obtain⟨G2,lk2,k1,k2,k3,k4,k5⟩:=bw.OV (vs:=vs) (xs:=xs) (fp:=f2) (id:=id+20) i1 h2 nd2
   (fr1 f2 (λ b hb=>hF b (by simp[hb])) (λ b hb cA=>nd3 b cA b hb rfl)) (λ p hp=>by rw[l1 p.1];unfold gj;rw[eR p hp];exact aY p (by simp[bx,hp])) d2 (λ j hj=>hR j (by omega))
  refine⟨G2,lk2,λ i=>?_,k2,e1.trans k3,⟨c1.ext k3,k4⟩,λ fq hq A2=>k5 fq (fr1 fq hq λ b hb cA=>A2 b hb (by simp[cA])) λ b hb cA=>A2 b hb (by simp[cA])⟩;rw[k1 i,show qK=gj (bX id v.cells) lk from funext l1];exact a6g eR lk i
 | [],_::_,_,_,_,_,_,hO,_,_,_,_,_=>hO.elim
 | _::_,[],_,_,_,_,_,hO,_,_,_,_,_=>hO.elim
theorem pF(r r':List (Nat×aB))(i:Nat):ah (r++r') i=gj r (ah r') i:=by
 unfold gj;induction r with
 | nil=>rfl
 | cons p r ih =>
  obtain⟨k,o⟩:=p;rw[b6g,dF,dF];by_cases hj:i=k
  .simp[hj]
  .simpa [hj] using ih
theorem Oj{id:Nat}{res:List TV}{x:Value}{fp:List Nat}(h:uz w res x fp):∃ xs,OP w res xs fp/\∀ (G:Gh) (lk:Nat->Option aB),aT (TR c G lk w) (QW id res) xs->VR c G lk w (kB id res) x:=by
 match res,h with
 | [v],h=>exact⟨[x],⟨fp,[],by simp,h,rfl⟩,λ G lk ha=>ha.1.fU⟩
 | [],h =>
  obtain⟨l,h1,h2⟩:=h;exact⟨l,h2,λ G lk ha=>⟨l,h1,ha⟩⟩
 | v::u::r,h =>
  obtain⟨l,h1,h2⟩:=h;exact⟨l,h2,λ G lk ha=>⟨l,h1,ha⟩⟩
end
section
variable {c:Ctx} {G:Gh} {s:aj} {a:Act} {w w':World}
theorem cW:∀ {l:List Nat},nodupB l=true->l.Nodup
 | [],_=>b6b
 | a::r,h=>by
  simp only[nodupB] at h;split at h
  .cases h
  .rename_i hc;exact List.nodup_cons.2 ⟨by simpa using hc,cW h⟩
theorem XN(hE:bF c.P c.E)(h:Inv c G s a w){o:Oper}{f:FuncId}{Ts:List TypeId}{vs:List AV}{xs:List Value}{Z9:List Arg}{pre:Vc}{res:List TV}{d b:Nat}{Q:Exit->Act->World->Prop}
  (has:mC c.E s.ah Ts vs=some Z9) (lh:aT (VR c G s.ah w) vs xs) (hc:c.E.Mg f Z9=some (pre,res)) (yI:pre.ok) (hd:o.dst=some d)
  (vF:∀ p∈bx b res,s.ah p.1=none) (rB:((bx b res).map (·.1)).Nodup) (hR:100<=b)
  (cI:iw c.P f->(execOp a.eval o).run c.P w = .ok (.enter f xs.toArray) w) :
  o.wp c.P a w (λ a' w'=>∃ G',Inv c G' { aC:=s.aC.set d (kB b res),aJ:=bx b res++s.aJ } a' w') Q:=by
 obtain⟨l7,gC⟩:=hE.Mg f Z9 pre res hc yI;unfold Oper.wp;rw[cI l7];simp only[Oper.upon];refine (gC w (SX G s.ah) xs [] ?_ (.XJ (iy hE h (λ _ _ h=>h) (λ _ h => .inl h) (λ τ v x y h1 h2=>AA h.aL h.aJ (λ _ _ h=>h) h1 h2) has lh)) (.inl rfl) List.nodup_nil (by simp)).mono ?_
 .exact h.a2U
 .rintro e w' ⟨x,fp,rfl,hk,hO,cR,jM⟩;have hk:bD (λ _=>False) w w':=⟨hk.os,hk.tape,hk.output,hk.size,λ b hb _=>hk.block b hb (by simp)⟩;have jM:∀ b∈fp,w.heap.size<=b/\b<w'.heap.size:=λ b hb=>(jM b hb).resolve_left (by simp);have hI:=bw.grow h hk (S':=G.S) (λ _ _=>b6P) (λ b hb=>b5i (h.dB b hb) hk.size);obtain⟨ys,mR,Uq⟩:=Oj (c:=c) (id:=b) hO;have hF:Fr c ⟨G.S,G.η,G.φ⟩ s.ah w' fp:=λ b hb=>by
   obtain⟨h1,h2⟩:=jM b hb;have:=h.aR.size;refine⟨.inl (by omega),λ hs=>?_,h2,λ i o' hi qp=>?_,λ j τ zs hj nS=>?_⟩
   .have:=h.dB b hs;omega
   .have:=(h.place i o' b hi qp).2.2;omega
   .have:=(h.aL.pl j τ zs b hj nS).2.2.1;omega
  obtain⟨G',lk',k1,k2,k3,k4,_⟩:=hI.OV (id:=b) mR cR hF vF rB (λ j hj=>by
   cases hr:c.R j with
   | none=>rfl
   | some v=>have:=h.ic j v hr;omega)
  refine⟨G',?_⟩;have ct:aj.ah { aC:=s.aC.set d (kB b res),aJ:=bx b res++s.aJ }=lk':=by
   funext i;rw[k1 i];exact pF _ _ i
  unfold Inv;rw[ct,hd,show aj.sl { aC:=s.aC.set d (kB b res),aJ:=bx b res++s.aJ }=jV s.aC.length s.sl (some d) (kB b res) from re s.aC d _ _,
   show ({ aC:=s.aC.set d (kB b res),aJ:=bx b res++s.aJ }:aj).aC.length=s.aC.length from by simp]
  exact bw.put k2 (Uq G' lk' k4)
end
theorem eW{α:Type}:∀ {l:List (Nat×α)} {id:Nat} {o:α},ah l id=some o->(id,o)∈l
 | (k,p)::r,id,o,h=>by
  simp only[ah] at h;split at h
  .rename_i hk;have hk:=b4O hk;simp only[b4L] at h;subst hk h;simp
  .exact b6l _ (eW h)
theorem xi{α:Type}:∀ {l:List (Nat×α)} {id:Nat} {o:α},(l.map (·.1)).Nodup->(id,o)∈l->ah l id=some o
 | (k,p)::r,id,o,hd,h=>by
  simp only[b5J,b5G] at hd;simp only[ah];rcases b5h.1 h with e|h
  .simp only[b4P] at e;obtain⟨rfl,rfl⟩:=e;simp
  .split
   .rename_i hk;have hk:=b4O hk;subst hk;exact absurd (b4W.2 ⟨_,h,rfl⟩) hd.1
   .exact xi hd.2 h
section
variable {c:Ctx} {G:Gh} {sl:Nat->AV} {n:Nat} {lk:Nat->Option aB} {a:Act} {w w':World}
abbrev TE:=Value×List Nat×aB
def JY(A:List (Nat×TE))(G:Gh)(i:Nat):Value:=match ah A i with
 | some e=>e.1
 | none=>G.η i
def BR(A:List (Nat×TE))(G:Gh)(i:Nat):List Nat:=match ah A i with
 | some e=>e.2.1
 | none=>G.φ i
def Vb(A:List (Nat×TE))(lk:Nat->Option aB)(i:Nat):Option aB:=match ah A i with
 | some e=>some e.2.2
 | none=>lk i
structure a1l(G:Gh)(lk:Nat->Option aB)(w':World)(id:Nat)(e:TE):Prop where
 ex:∃ τ xs cS v l l',lk id=some (.av τ xs)/\e.2.2 = .av τ cS/\G.η id = .tuple (v::l).toArray/\e.1 = .tuple (v::l').toArray/\ie w' e.1 τ cS e.2.1/\e.2.1.Nodup
theorem LF.ofList{A:List (Nat×TE)}(hA:∀ p∈A,a1l G lk w' p.1 p.2)(a3M:∀ p∈A,∀ b∈p.2.2.1,(∃ q∈A,b∈G.φ q.1)\/wY c G lk w' b)(hap:∀ p∈A,∀ q∈A,∀ b∈p.2.2.1,b∈q.2.2.1->p.1=q.1)(cR:(A.map (·.1)).Nodup)
  (b1L:∀ b,b<w.heap.size->(∀ p∈A,b∉G.φ p.1)->w'.heap[b]?=w.heap[b]?) (hos:w'.os=w.os) (a3P:w'.tape=w.tape) (ZF:w'.output=w.output) (R5:w.heap.size<=w'.heap.size) :
  LF c G lk (Vb A lk) w w' (JY A G) (BR A G) (λ i=>∃ e,ah A i=some e) where
 same id hi:=by
  have:ah A id=none:=by
   cases hx:ah A id with
   | none=>rfl
   | some e=>exact absurd ⟨e,hx⟩ hi
  simp[Vb,JY,BR,this]
 av id:=by
  rintro⟨e,he⟩;obtain⟨τ,xs,cS,v,l,l',h1,h2,h3,h4,h5,h6⟩:=(hA _ (eW he)).ex;refine⟨τ,xs,cS,v,l,l',h1,?_,h3,?_,?_,?_⟩
  .simp only[Vb,he];rw[<-h2]
  .simp only[JY,he];exact h4
  .simp only[JY,BR,he];exact h5
  .simp only[BR,he];exact h6
 b0F id b:=by
  rintro⟨e,he⟩ hb;simp only[BR,he] at hb;rcases a3M _ (eW he) b hb with ⟨q,hq,hbq⟩|hfr
  .exact .inl ⟨q.1,⟨q.2,xi cR hq⟩,hbq⟩
  .exact .inr hfr
 apart id dy b:=by
  rintro⟨e,he⟩ ⟨e',Dy⟩ hb cA;simp only[BR,he] at hb;simp only[BR,Dy] at cA;exact hap _ (eW he) _ (eW Dy) b hb cA
 heap b hb hn:=b1L b hb λ p hp=>hn p.1 ⟨p.2,xi cR hp⟩
 os:=hos
 tape:=a3P
 output:=ZF
 size:=R5
def wZ(G:Gh)(lk:Nat->Option aB)(ids:List Nat)(b:Nat):Prop :=
 ∃ id∈ids,(∃ τ xs,lk id=some (.av τ xs)/\b∈G.φ id)\/∃ e τ xs,lk id=some (.row e τ xs)/\ef (G.η id)=some b
theorem wZ.mono{ids IW:List Nat}{b:Nat}(h:wZ G lk ids b)(hs:∀ i∈ids,i∈IW):wZ G lk IW b:=by
 obtain⟨id,hi,h⟩:=h;exact⟨id,hs id hi,h⟩
theorem bw.iZ(h:bw c G sl n lk a w){i j:List Nat}{b:Nat}(hi:wZ G lk i b)(hj:wZ G lk j b)(hd:∀ x∈i,∀ y∈j,x≠y):False:=by
 obtain⟨x,hx,h1⟩:=hi;obtain⟨y,hy,h2⟩:=hj;rcases h1 with ⟨τ,xs,k1,k2⟩|⟨e,τ,xs,k1,k2⟩<;>rcases h2 with ⟨bf,cS,m1,m2⟩|⟨e',bf,cS,m1,m2⟩
 .exact hd x hx y hy (h.aL.ap x y τ bf xs cS b k1 m1 k2 m2)
 .exact (h.aL.pl x τ xs b k1 k2).2.2.2 y _ m1 m2
 .exact (h.aL.pl y bf cS b m1 m2).2.2.2 x _ k1 k2
 .exact hd x hx y hy (h.apart x y _ _ b k1 m1 k2 m2)
theorem uu{τ:Ty}(h:τ.ur=true)(y:τ.den):(τ.aP y).light=true:=by
 cases τ<;>first|rfl|cases h
theorem Xe:∀ {l:List D},(∀ d∈l,d.light=true)->D.Kh l=true
 | [],_=>rfl
 | d::ds,h=>by
  simp only[D.Kh,b4S];exact⟨h d (by simp),Xe λ e he=>h e (b6l _ he)⟩
theorem a0W{τ:Ty}(h:τ.plain=true)(y:τ.den):(τ.aP y).light=true:=by
 cases τ with
 | st s =>
  show (s.aP y).light=true;rw[aV.cz];refine Xe λ d hd=>?_;obtain⟨u,hu,rfl⟩:=b4W.1 hd;have ht:u.τ∈s.tA:=by rw[<-aV.oJ s y];exact b4W.2 ⟨u,hu,rfl⟩
  exact uu (b5F.1 h _ ht) u.x
 | slice t=>cases h
 | mv t=>cases h
 | ptr=>rfl
 | int k=>rfl
 | bool=>rfl
 | str=>rfl
theorem BQ(h:bw c G sl n lk a w){τ:Ty}{v:AV}{x:Value}{y:τ.den}{ids:List Nat}(ht:ea lk τ v=some (y,ids))(hv:C1 c G lk w v x):∃ fp,Ow w (τ.aP y) [x] fp/\fp.Nodup/\∀ b∈fp,wZ G lk ids b:=by
 cases v with
 | aH u =>
  simp only[ea] at ht;split at ht
  .rename_i y' hs hy;simp only[b4L,b4P] at ht;obtain⟨rfl,rfl⟩:=ht;have e:=TV.aU hy;subst e;exact⟨[],Ow.ew _ (uu hs _) hv.2,b6b,by simp⟩
  .cases ht
 | nil =>
  cases τ with
  | slice t =>
   simp only[ea,b4L,b4P] at ht;obtain⟨rfl,rfl⟩:=ht;exact⟨[],⟨none,0,by rw[show x=_ from hv];rfl,by simp,by simp[maxLen],by simp, .inl ⟨rfl,⟨rfl,rfl⟩,rfl⟩⟩,b6b,by simp⟩
  | _=>cases ht
 | av id =>
  simp only[ea] at ht;split at ht
  .rename_i bf xs hl;split at ht
   .rename_i y' hy;simp only[b4L,b4P] at ht;obtain⟨rfl,rfl⟩:=ht;have e:=TV.aU hy;cases e;obtain⟨_,l,h2,_⟩:=hv;exact⟨G.φ id,Ow.a0R (h.aL.tr id bf xs hl) h2,h.aL.nd id bf xs hl,λ b hb=>⟨id,by simp, .inl ⟨bf,xs,hl,hb⟩⟩⟩
   .cases ht
  .cases ht
 | row id =>
  simp only[ea] at ht;split at ht
  .rename_i e bf xs hl;split at ht
   .rename_i y' hp hy;simp only[b4L,b4P] at ht;obtain⟨rfl,rfl⟩:=ht;have e1:=TV.aU hy;cases e1;obtain⟨hx,_,_⟩:=hv;obtain⟨l,h1,h2,h3⟩:=h.aJ id _ hl;have Qf:∀ d∈xs.map bf.aP,d.light=true:=λ d hd=>by
     obtain⟨z,_,rfl⟩:=b4W.1 hd;exact a0W hp z
    rcases h1.2 with ⟨hv',hn⟩|⟨g,cap,cur,hv',_,hh,YC,hcm,kj,htk⟩
    .have lh:xs=[]:=b5U hn;subst lh;exact⟨[],⟨none,0,by rw[hx,hv'];rfl,by simp,by simp[maxLen],by simp, .inl ⟨rfl,⟨rfl,rfl⟩,rfl⟩⟩,b6b,by simp⟩
    .refine⟨[g],⟨some ⟨g,0,none⟩,cap,by rw[hx,hv'];simp,by simpa using YC,hcm,by simpa using h3, .inr ⟨g,[],cur.toList,e,rfl,rfl,by simpa using hh,?_⟩⟩,by simp,λ b hb=>?_⟩
     .have hr:=bR.ew (w:=w) (S:=G.S) (xs.map bf.aP) (l:=l) (m:=cur.toList.drop (xs.length * bf.size)) Qf h2;rw[<-htk,b6d] at hr;exact⟨by rw[b5S];exact kj,hr⟩
     .simp only[b5t] at hb;subst hb;exact⟨id,by simp, .inr ⟨e,bf,xs,hl,by rw[hv'];rfl⟩⟩
   .cases ht
  .cases ht
 | _=>cases ht
theorem ei{l1 l2:List Nat}(h1:l1.Nodup)(h2:l2.Nodup)(h3:∀ x∈l1,x∉l2):(l1++l2).Nodup:=by
 rw[b5s];exact⟨h1,h2,λ x hx y hy e=>h3 x hx (e ▸ hy)⟩
theorem Rh(h:bw c G sl n lk a w):∀ {cs:List AV} {ts:List Ty} {us:List TV} {ids:List Nat} {l:List Value},tg lk cs ts=some (us,ids)->aT (C1 c G lk w) cs l->ids.Nodup ->
  ∃ fp,cT w (us.map TV.aP) l fp/\fp.Nodup/\(∀ b∈fp,wZ G lk ids b)/\us.map TV.τ=ts
 | [],[],us,ids,l,ht,hl,_=>by
  simp only[tg,b4L,b4P] at ht;obtain⟨rfl,rfl⟩:=ht;match l,hl with
  | [],_=>exact⟨[],⟨rfl,rfl⟩,b6b,by simp,rfl⟩
 | cc::cs,t::ts,us,ids,l,ht,hl,cR=>by
  simp only[tg] at ht;split at ht
  .rename_i x i hx;split at ht
   .rename_i r j hr;simp only[b4L,b4P] at ht;obtain⟨rfl,rfl⟩:=ht;match l,hl with
    | v::l,hl =>
     rw[b5s] at cR;obtain⟨n1,n2,n3⟩:=cR;obtain⟨f1,a1,a2,a3⟩:=BQ h hx hl.1;obtain⟨f2,b1,b2,b3,b4⟩:=Rh h hr hl.2 n2;refine⟨f1++f2,⟨v,l,f1,f2,rfl,rfl,a1,b1⟩,ei a2 b2 λ b hb cA=>h.iZ (a3 b hb) (b3 b cA) (λ x hx y hy=>n3 x hx y hy),λ b hb=>?_,by simp[b4]⟩;rcases b4Q.1 hb with hb|hb
     .exact (a3 b hb).mono λ k hk=>by simp[hk]
     .exact (b3 b hb).mono λ k hk=>by simp[hk]
   .cases ht
  .cases ht
 | [],_::_,_,_,_,ht,_,_=>by cases ht
 | _::_,[],_,_,_,ht,_,_=>by cases ht
theorem mz(h:bw c G sl n lk a w){τ:Ty}{v:AV}{x:Value}{y:τ.den}{ids:List Nat}(ht:rh lk τ v=some (y,ids))(hv:VR c G lk w v x)(cR:ids.Nodup):∃ fp,xH w ⟨τ,y⟩ x fp/\fp.Nodup/\∀ b∈fp,wZ G lk ids b:=by
 have one:(∀ cs,v ≠ .agg cs)->ea lk τ v=some (y,ids)->∃ fp,xH w ⟨τ,y⟩ x fp/\fp.Nodup/\∀ b∈fp,wZ G lk ids b:=by
  intro hna ht;have cw:∀ s,τ ≠ .st s:=λ s e=>by
   subst e;cases v with
   | aH u=>simp[ea,Ty.ur] at ht
   | nil=>simp[ea] at ht
   | av id =>
    simp only[ea] at ht;split at ht
    .split at ht
     .rename_i hy;have e:=TV.aU hy;cases e
     .cases ht
    .cases ht
   | row id =>
    simp only[ea] at ht;split at ht
    .split at ht
     .rename_i hy;have e:=TV.aU hy;cases e
     .cases ht
    .cases ht
   | _=>cases ht
  have hc:C1 c G lk w v x:=by
   refine hv.Z6 ?_;cases v with
   | aH u =>
    simp only[ea] at ht;split at ht
    .rename_i hy;have e:=TV.aU hy;subst e;cases τ<;>first|rfl|exact absurd rfl (cw _)
    .cases ht
   | nil=>rfl
   | av id=>rfl
   | row id=>rfl
   | _=>cases ht
  obtain⟨fp,h1,h2,h3⟩:=BQ h ht hc;refine⟨fp,?_,h2,h3⟩;cases τ with
  | st s=>exact absurd rfl (cw s)
  | _=>exact h1
 cases v with
 | agg cs =>
  cases τ with
  | st s =>
   simp only[rh] at ht;split at ht
   .rename_i us i kj;split at ht
    .rename_i y' hy;simp only[b4L,b4P] at ht;obtain⟨rfl,rfl⟩:=ht;obtain⟨l,rfl,hl⟩:=hv;obtain⟨fp,h1,h2,h3,_⟩:=Rh h kj hl cR;refine⟨fp,⟨l,rfl,?_⟩,h2,h3⟩;rw[aV.cz,aV.og hy];exact h1
    .cases ht
   .cases ht
  | _=>cases ht
 | _=>exact one (by intro cs;simp) ht
theorem cT.split:∀ (ds:List D) {l:List Value} {fp:List Nat} (i:Nat) (d:D),cT w ds l fp->ds[i]?=some d ->
  ∃ v f0 f1 f2,fp=f0++f1++f2/\l[i]?=some v/\Ow w d [v] f1/\∀ (w':World) (d':D) (v':Value) (iE:List Nat),(∀ b∈f0++f2,w'.heap[b]?=w.heap[b]?)->Ow w' d' [v'] iE->cT w' (ds.set i d') (l.set i v') (f0++iE++f2)
 | [],_,_,_,_,_,hi=>by simp at hi
 | e::ds,_,_,0,d,h,hi=>by
  obtain⟨v,r,f1,f2,rfl,rfl,h3,h4⟩:=h;simp at hi;subst hi;exact⟨v,[],f1,f2,by simp,rfl,h3,λ w' d' v' iE hw hd=>⟨v',r,iE,f2,rfl,by simp,hd,cT.aR ds h4 λ b hb=>hw b (by simp[hb])⟩⟩
 | e::ds,_,_,i+1,d,h,hi=>by
  obtain⟨v,r,g1,g2,rfl,rfl,h3,h4⟩:=h;obtain⟨u,f0,f1,f2,rfl,k1,k2,k3⟩:=cT.split ds i d h4 (by simpa using hi);refine⟨u,g1++f0,f1,f2,by simp,by simpa using k1,k2,λ w' d' v' iE hw hd=>?_⟩;exact⟨v,r.set i v',g1,f0++iE++f2,rfl,by simp,Ow.aR e h3 λ b hb=>hw b (by simp[hb]),k3 w' d' v' iE (λ b hb=>hw b (by simp at hb ⊢;rcases hb with hb|hb<;>simp[hb])) hd⟩
theorem TJ(v:AV):v.dh=v\/v.dh = .any:=by unfold AV.dh;split<;>simp
theorem L6(v:AV):v.dh.Rg=false:=by
 unfold AV.dh;split
 .rfl
 .assumption
theorem T0:∀ cs:List AV,AV.pc (cs.map AV.dh)=false
 | []=>rfl
 | v::r=>by simp only[b5J,AV.pc,L6];exact T0 r
theorem C1.dh{v:AV}{x:Value}(h:C1 c G lk w v x):C1 c G lk w v.dh x:=by
 rcases TJ v with e|e
 .rw[e];exact h
 .rw[e];trivial
theorem Ml(o:Option aB):eK o (o.map aB.dh):=by
 refine⟨λ h=>?_,λ e τ xs h=>⟨e,xs,by rw[h];rfl,b5w _⟩,λ h=>?_,λ h=>?_⟩
 .match o,h with
  | some (.box cs),_=>rfl
 .match o,h with
  | some (.av τ xs),_=>rfl
 .match o,h with
  | some (.map m),_=>rfl
theorem Bz{o:Option aB}{τ:Ty}{xs:List τ.den}(h:o.map aB.dh=some (.av τ xs)):o=some (.av τ xs):=by
 match o,h with
 | some (.av bf cS),h=>exact h
 | some (.box _),h=>cases h
 | some (.row ..),h=>cases h
theorem bw.bU(h:bw c G sl n lk a w):bw c G (λ i=>(sl i).dh) n (λ i=>(lk i).map aB.dh) a w:=by
 have h1:bw c G (λ i=>(sl i).dh) n lk a w:=h.forget λ i=>TJ (sl i);exact {
  defers:=h1.defers,size:=h1.size,aR:=h1.aR,jf:=h1.jf,dT:=h1.dT,sX:=h1.sX,dB:=h1.dB
  aC:=λ i=>(h1.aC i).mono (λ j _=>⟨Ml _,rfl⟩) (λ _ h=>h) (λ _ _=>rfl)
  aJ:=λ i o ho=>by
   rw[b5L] at ho;obtain⟨o',cP,rfl⟩:=ho;have hk:OR c G lk w i o'.dh:=by
    have:=h1.aJ i o' cP;cases o' with
    | box cs =>
     obtain⟨b,l,t,k1,k2,k3⟩:=this;exact⟨b,l,t,k1,k2,aT.dZ _ (k3.imp λ u y _ hy=>hy.dh)⟩
    | row e τ xs=>exact this
    | av τ xs=>exact this
    | map m=>exact this
   exact hk.mono rfl (λ _ _=>rfl) (λ j _=>⟨Ml _,rfl⟩) (λ _ h=>h) (λ _ _=>rfl)
  place:=λ i o b ho hb=>by
   rw[b5L] at ho;obtain⟨o',cP,rfl⟩:=ho;exact h1.place i o' b cP hb
  apart:=λ i j o o' b ho cP hb cA=>by
   rw[b5L] at ho cP;obtain⟨p,hp,rfl⟩:=ho;obtain⟨q,hq,rfl⟩:=cP;exact h1.apart i j p q b hp hq hb cA
  aL:=h1.aL.sub (λ i τ xs k=>Bz k) (λ i o k=>by
   rw[b5L] at k;obtain⟨p,hp,_⟩:=k;exact⟨p,hp⟩)
  root:=λ i v hr ht=>h1.root i v hr (by
   match hl:lk i,ht with
   | some (.av ..),_=>rfl
   | some (.box _),ht=>simp[hl,aB.dh,cx] at ht
   | some (.row ..),ht=>simp[hl,aB.dh,cx] at ht
   | none,ht=>simp[hl,cx] at ht)
  ic:=h1.ic
  dm:=λ i v hr ht=>h1.dm i v hr (by
   match hl:lk i,ht with
   | some (.box _),_=>rfl
   | some (.av ..),ht=>simp[hl,aB.dh,gi] at ht
   | some (.row ..),ht=>simp[hl,aB.dh,gi] at ht
   | none,ht=>simp[hl,gi] at ht)
  eN:=h1.eN }
end
section
variable {c:Ctx} {G:Gh} {s:aj} {a:Act} {w w':World}
theorem X5(s:aj):s.bU.sl=λ i=>(s.sl i).dh:=by
 funext i;simp only[aj.sl,aj.bU,b5b,b6D];cases s.aC[i]?<;>rfl
theorem ku(s:aj):s.bU.ah=λ i=>(s.ah i).map aB.dh:=by
 funext i;exact Ki _ _ _
theorem Inv.bU(h:Inv c G s a w):Inv c G s.bU a w/\(∀ i,(s.bU.sl i).Rg=false)/\∀ id cs,s.bU.ah id=some (.box cs)->AV.pc cs=false:=by
 refine⟨?_,λ i=>by rw[X5];exact L6 _,λ id cs aY=>?_⟩
 .unfold Inv;rw[X5,ku,show s.bU.aC.length=s.aC.length from by simp[aj.bU]];exact bw.bU h
 .rw[ku] at aY;simp only[b5L] at aY;obtain⟨o,_,ho⟩:=aY;cases o with
  | box dE=>cases ho;exact T0 dE
  | row e τ xs=>cases ho
  | av τ xs=>cases ho
  | map m=>cases ho
theorem Inv.Rn(h:Inv c G s a w){A:List (Nat×TE)}(hA:∀ p∈A,a1l G s.ah w' p.1 p.2)(a3M:∀ p∈A,∀ b∈p.2.2.1,(∃ q∈A,b∈G.φ q.1)\/wY c G s.ah w' b)(hap:∀ p∈A,∀ q∈A,∀ b∈p.2.2.1,b∈q.2.2.1->p.1=q.1)(cR:(A.map (·.1)).Nodup)
  {F:Nat->Prop} (hk:bD F w w') (hF:∀ b,F b->∃ p∈A,b∈G.φ p.1) {t:aj} (hts:t.aC=s.bU.aC) (Hw:∀ i,t.ah i=Vb A s.bU.ah i) {d:Option Nat} {v:AV} {x:Value} (hv:∀ G' lk,VR c G' lk w' v x) :
  ∃ G',Inv c G' (t.put d v) (a.put d x) w':=by
 obtain⟨h1,h2,h3⟩:=h.bU;have hA':∀ p∈A,a1l G s.bU.ah w' p.1 p.2:=λ p hp=>by
  obtain⟨τ,xs,cS,v,l,l',k1,k2⟩:=(hA p hp).ex;exact⟨τ,xs,cS,v,l,l',by rw[ku];simp[k1,aB.dh],k2⟩
 have a9D:∀ p∈A,∀ b∈p.2.2.1,(∃ q∈A,b∈G.φ q.1)\/wY c G s.bU.ah w' b:=λ p hp b hb=>(a3M p hp b hb).imp id λ ⟨q1,q2,q3,q4,q5⟩ =>
  ⟨q1,q2,q3,λ i o hi=>by
   rw[ku] at hi;simp only[b5L] at hi;obtain⟨o',cP,_⟩:=hi;exact q4 i o' cP,λ j τ xs hj=>q5 j τ xs (by rw[ku] at hj;exact Bz hj)⟩
 have T:=LF.ofList (c:=c) (w:=w) hA' a9D hap cR (λ b hb hn=>hk.block b hb λ hf=>by
  obtain⟨p,hp,hbp⟩:=hF b hf;exact hn p hp hbp) hk.os hk.tape hk.output hk.size
 have hI:=bw.fc h1 T h2 h3;refine⟨_,Inv.put (G:=⟨G.S,JY A G,BR A G⟩) ?_ (hv _ _)⟩;unfold Inv;rw[show t.sl=s.bU.sl from by funext i;simp only[aj.sl,hts],show t.ah=Vb A s.bU.ah from funext Hw,hts];exact hI
theorem JW(id:Nat)(e:TE)(lk:Nat->Option aB)(i:Nat):Vb [(id,e)] lk i=if i=id then some e.2.2 else lk i:=by
 unfold Vb;simp only[ah];by_cases hi:i=id
 .subst hi;simp
 .have:Nat.beq id i=false:=by
   cases hb:Nat.beq id i with
   | false=>rfl
   | true=>exact absurd (b4O hb).symm hi
  simp[this,hi]
theorem eQ(s:aj)(id:Nat)(τ:Ty)(xs:List τ.den)(i:Nat):(s.dn id τ xs).ah i=if i=id then some (.av τ xs) else s.ah i:=by
 show ah ((id,_)::bS id s.aJ) i=_;rw[dF,eI];by_cases hi:i=id
 .simp[hi]
 .simp[hi];rfl
theorem Q0{lk:Nat->Option aB}{k:Int}(h:O k):VR c G lk w (.aH ⟨.int .i64,k⟩) (.int .i64 k):=by
 refine⟨rfl,?_⟩;simp only[IntKind.min,IntKind.max,IntKind.signed,IntKind.bits,b6M];obtain⟨q1,q2⟩:=h;constructor<;>omega
theorem PJ(h:Inv c G s a w){b:Nat}(h1:w.heap.size<=b)(h2:b<w'.heap.size):wY c G s.ah w' b:=by
 have:=h.aR.size;refine⟨.inl (by omega),λ hs=>by have:=h.dB b hs;omega,h2,λ i o hi qp=>by have:=(h.place i o b hi qp).2.2;omega,λ j τ xs hj nS=>by have:=(h.aL.pl j τ xs b hj nS).2.2.1;omega⟩
theorem U1(hE:bF c.P c.E)(h:Inv c G s a w){o:Oper}{f:FuncId}{τ:Ty}{g:(Ty.slice τ).den->Int->Vc×(Ty.slice τ).den×Int}(hm:c.E.mark f=some ⟨.slice τ,g⟩){id:Nat}{xs:List τ.den}(aY:s.ah id=some (.av τ xs)){k:Int}{v z:Value}{d:Nat}
  (hv:VR c G s.ah w (.av id) v) (hz:VR c G s.ah w (.aH ⟨.int .i64,k⟩) z) (yI:(g xs k).1.ok) (hd:o.dst=some d) (cI:iw c.P f->(execOp a.eval o).run c.P w = .ok (.enter f [v,z].toArray) w) {Q:Exit->Act->World->Prop} :
  o.wp c.P a w (λ a' w'=>∃ G',Inv c G' ((s.bU.dn id τ (g xs k).2.1).put (some d) (.aH ⟨.int .i64,(g xs k).2.2⟩)) a' w') Q:=by
 obtain⟨l7,gC⟩:=hE.mark f _ hm;obtain⟨R7,hz2,hz3⟩:=hz;simp only[b4X,b5d] at R7;subst R7;obtain⟨_,l,ec,Aq⟩:=hv;have hO:=Ow.a0R (h.aL.tr id τ xs aY) ec;have a1W:O k:=by
  simp only[IntKind.min,IntKind.max,IntKind.signed,IntKind.bits,b6M] at hz2 hz3;constructor<;>omega
 unfold Oper.wp;rw[cI l7];simp only[Oper.upon];refine (gC xs k w v (G.φ id) yI a1W (h.a7z λ b hb=>(h.aL.pl id τ xs b aY hb).2.1) hO (h.aL.nd id τ xs aY) λ b hb=>(h.aL.pl id τ xs b aY hb).2.2.1).mono ?_;rintro e w' ⟨rfl,eA,hk,mP,mR,L1,qv⟩;obtain⟨l',hT,_⟩:=ie.XK (τ:=τ) mR;rw[hd];show ∃ G',Inv c G' ((s.bU.dn id τ (g xs k).2.1).put (some d) (.aH ⟨.int .i64,(g xs k).2.2⟩)) (a.put (some d) (.int .i64 (g xs k).2.2)) w';refine h.Rn (w':=w') (t:=s.bU.dn id τ (g xs k).2.1) (A:=[(id,(.tuple (v::l').toArray,mP, .av τ (g xs k).2.1))]) ?_ ?_ ?_ (by simp) hk (λ b hb=>⟨_,List.mem_singleton.2 rfl,hb⟩) rfl (λ i=>?_) (λ G' lk=>Q0 eA)
 .intro p hp;simp only[b5t] at hp;subst hp;exact⟨τ,xs,_,v,l,l',aY,rfl,ec,rfl,hT,L1⟩
 .intro p hp b hb;simp only[b5t] at hp;subst hp;rcases qv b hb with q|q
  .exact .inl ⟨_,b5t.2 rfl,q⟩
  .exact .inr (PJ h q.1 q.2)
 .intro p hp q hq b _ _;simp only[b5t] at hp hq;rw[hp,hq]
 .rw[JW,eQ]
theorem BM{f0 f1 f2 iE:List Nat}(h:(f0++f1++f2).Nodup)(h1:iE.Nodup)(hs:∀ b∈iE,b∈f1\/(b∉f0/\b∉f2)):(f0++iE++f2).Nodup:=by
 rw[b5s,b5s] at h;obtain⟨⟨a1,a2,a3⟩,a4,a5⟩:=h;refine ei (ei a1 h1 λ x hx DE=>(hs x DE).elim (λ q=>a3 x hx x q rfl) λ q=>q.1 hx) a4 λ x hx DE=>?_;rcases b4Q.1 hx with hx|hx
 .exact a5 x (by simp[hx]) x DE rfl
 .exact (hs x hx).elim (λ q=>a5 x (by simp[q]) x DE rfl) λ q=>q.2 DE
theorem TW{w:World}{τ LC:Ty}{x:τ.den}{off:Nat}{u:TV}(hu:TV.part ⟨τ,x⟩ off LC=some u)(cw:LC.agg=false){ce:List Value}{fp:List Nat}(hO:Ow w (τ.aP x) ce fp) :
  ∃ v f0 f1 f2,fp=f0++f1++f2/\ce[off]?=some v/\Ow w u.aP [v] f1/\∀ (w':World) (u':TV) (y:τ.den) (v':Value) (iE:List Nat),kQ τ x off u'=some y->(∀ b∈f0++f2,w'.heap[b]?=w.heap[b]?)->Ow w' u'.aP [v'] iE->Ow w' (τ.aP y) (ce.set off v') (f0++iE++f2):=by
 cases τ with
 | st s =>
  have qq:(s.cells x)[off]?=some u:=by
   unfold TV.part at hu;split at hu
   .rename_i hb;simp only[b4S] at hb;have:=b5E hb.2;have e:Ty.st s=LC:=this;subst e;cases cw
   .split at hu
    .rename_i z hz;split at hu
     .simp only[b4L] at hu;subst hu;exact hz
     .cases hu
    .cases hu
  rw[show Ty.aP (.st s) x=s.aP x from rfl,aV.cz] at hO;obtain⟨v,f0,f1,f2,h1,h2,h3,h4⟩:=cT.split _ off u.aP hO (by rw[b6D,qq];rfl);refine⟨v,f0,f1,f2,h1,h2,h3,λ w' u' y v' iE hp hw mR=>?_⟩;simp only[kQ,qq] at hp;split at hp
  .have hy:=aV.og hp;rw[show Ty.aP (.st s) y=s.aP y from rfl,aV.cz,hy,b7U];exact h4 w' u'.aP v' iE hw mR
  .cases hp
 | slice t =>
  have n8:off=0/\u=⟨.slice t,x⟩:=by
   unfold TV.part at hu;split at hu
   .rename_i hb;simp only[b4S] at hb;simp only[b4L] at hu;exact⟨b4O hb.1,hu.symm⟩
   .split at hu
    .rename_i z hz;cases off with
     | zero=>simp[TV.cells] at hz;subst hz;split at hu<;>simp_all
     | succ k=>simp[TV.cells] at hz
    .cases hu
  obtain⟨rfl,rfl⟩:=n8;have hl:=Ow.length _ hO;match ce,hl with
  | [v],_ =>
   refine⟨v,[],fp,[],by simp,rfl,hO,λ w' u' y v' iE hp _ mR=>?_⟩;simp only[kQ] at hp;have e:=TV.aU hp;subst e;rw[b5q,b6a];exact mR
 | mv t =>
  have n8:off=0/\u=⟨.mv t,x⟩:=by
   unfold TV.part at hu;split at hu
   .rename_i hb;simp only[b4S] at hb;simp only[b4L] at hu;exact⟨b4O hb.1,hu.symm⟩
   .split at hu
    .rename_i z hz;cases off with
     | zero=>simp[TV.cells] at hz;subst hz;split at hu<;>simp_all
     | succ k=>simp[TV.cells] at hz
    .cases hu
  obtain⟨rfl,rfl⟩:=n8;have hl:=Ow.length _ hO;rw[Ty.cN] at hl;match ce,hl with
  | [v],_ =>
   refine⟨v,[],fp,[],by simp,rfl,hO,λ w' u' y v' iE hp _ mR=>?_⟩;simp only[kQ] at hp;have e:=TV.aU hp;subst e;rw[b5q,b6a];exact mR
 | ptr =>
  have n8:off=0/\u=⟨.ptr,x⟩:=by
   unfold TV.part at hu;split at hu
   .rename_i hb;simp only[b4S] at hb;simp only[b4L] at hu;exact⟨b4O hb.1,hu.symm⟩
   .split at hu
    .rename_i z hz;cases off with
     | zero=>simp[TV.cells] at hz;subst hz;split at hu<;>simp_all
     | succ k=>simp[TV.cells] at hz
    .cases hu
  obtain⟨rfl,rfl⟩:=n8;have hl:=Ow.length _ hO;rw[Ty.cN] at hl;match ce,hl with
  | [v],_ =>
   refine⟨v,[],fp,[],by simp,rfl,hO,λ w' u' y v' iE hp _ mR=>?_⟩;simp only[kQ] at hp;have e:=TV.aU hp;subst e;rw[b5q,b6a];exact mR
 | int k =>
  have n8:off=0/\u=⟨.int k,x⟩:=by
   unfold TV.part at hu;split at hu
   .rename_i hb;simp only[b4S] at hb;simp only[b4L] at hu;exact⟨b4O hb.1,hu.symm⟩
   .split at hu
    .rename_i z hz;cases off with
     | zero=>simp[TV.cells] at hz;subst hz;split at hu<;>simp_all
     | succ k=>simp[TV.cells] at hz
    .cases hu
  obtain⟨rfl,rfl⟩:=n8;have hl:=Ow.length _ hO;match ce,hl with
  | [v],_ =>
   refine⟨v,[],fp,[],by simp,rfl,hO,λ w' u' y v' iE hp _ mR=>?_⟩;simp only[kQ] at hp;have e:=TV.aU hp;subst e;rw[b5q,b6a];exact mR
 | bool =>
  have n8:off=0/\u=⟨.bool,x⟩:=by
   unfold TV.part at hu;split at hu
   .rename_i hb;simp only[b4S] at hb;simp only[b4L] at hu;exact⟨b4O hb.1,hu.symm⟩
   .split at hu
    .rename_i z hz;cases off with
     | zero=>simp[TV.cells] at hz;subst hz;split at hu<;>simp_all
     | succ k=>simp[TV.cells] at hz
    .cases hu
  obtain⟨rfl,rfl⟩:=n8;have hl:=Ow.length _ hO;match ce,hl with
  | [v],_ =>
   refine⟨v,[],fp,[],by simp,rfl,hO,λ w' u' y v' iE hp _ mR=>?_⟩;simp only[kQ] at hp;have e:=TV.aU hp;subst e;rw[b5q,b6a];exact mR
 | str =>
  have n8:off=0/\u=⟨.str,x⟩:=by
   unfold TV.part at hu;split at hu
   .rename_i hb;simp only[b4S] at hb;simp only[b4L] at hu;exact⟨b4O hb.1,hu.symm⟩
   .split at hu
    .rename_i z hz;cases off with
     | zero=>simp[TV.cells] at hz;subst hz;split at hu<;>simp_all
     | succ k=>simp[TV.cells] at hz
    .cases hu
  obtain⟨rfl,rfl⟩:=n8;have hl:=Ow.length _ hO;match ce,hl with
  | [v],_ =>
   refine⟨v,[],fp,[],by simp,rfl,hO,λ w' u' y v' iE hp _ mR=>?_⟩;simp only[kQ] at hp;have e:=TV.aU hp;subst e;rw[b5q,b6a];exact mR
theorem a2O(l:List Value)(o n k:Nat)(v:Value)(hk:k<n)(hl:o+n<=l.length):l.take o++((l.drop o).take n).set k v++l.drop (o+n)=l.set (o+k) v:=by
 conv=>rhs;rw[<-b6d o l]
 rw[List.set_append_right _ _ (by simp;omega),b5O];congr 1;have e:o+k - (List.take o l).length=k:=by rw[b5n];omega
 rw[e];conv=>rhs;rw[<-b6d n (l.drop o)]
 rw[List.set_append_left _ _ (by rw[b5n,b6f];omega),b6C]
theorem Yl{w:World}{η:Value}{τ LC:Ty}{xs:List τ.den}{fp:List Nat}(hT:ie w η τ xs fp)(cR:fp.Nodup){a0:Option Addr}{n cap:Nat}{l:List Value}(ec:η = .tuple (.slice a0 n cap::l).toArray){i off:Nat}(hi:i<n){u:TV}
  (hu:TV.part ⟨τ,xs.getD i τ.zero⟩ off LC=some u) (cw:LC.agg=false) (n8:off<τ.size):n=xs.length /\
  ∃ v f1,l[i * τ.size+off]?=some v/\Ow w u.aP [v] f1/\f1.Nodup/\(∀ b∈f1,b∈fp)/\∀ (w':World) (u':TV) (y:τ.den) (v':Value) (iE:List Nat),kQ τ (xs.getD i τ.zero) off u'=some y->(∀ b∈fp,b∉f1->(a0=some ⟨b,0,none⟩->∃ t,w'.heap[b]?=some (.cells (l.set (i * τ.size+off) v').toArray t (0,0)))/\(a0≠some ⟨b,0,none⟩->w'.heap[b]?=w.heap[b]?))->Ow w' u'.aP [v'] iE->iE.Nodup->(∀ b∈iE,b∈f1\/b∉fp) ->
   ∃ mP,ie w' (.tuple (.slice a0 n cap::l.set (i * τ.size+off) v').toArray) τ (xs.set i y) mP/\mP.Nodup/\∀ b∈mP,b∈fp\/b∈iE:=by
 obtain⟨v0,l0,a1,V0,h1,h2,h3,h4,h5,h6⟩:=hT;rw[ec] at h1;simp only[b6r] at h1;have h1:(Value.slice a0 n cap::l)=v0::l0:=congrArg Array.toList h1;simp only[b4X] at h1;obtain⟨hq,IT⟩:=h1;subst IT;rw[h2] at hq;simp only[b6v] at hq;obtain⟨rfl,rfl,rfl⟩:=hq;rcases h6 with ⟨rfl,_,_⟩|⟨b,f,t,rfl,rfl,k1,k0,k2⟩
 .simp at hi
 .have cK:∀ d∈xs.map τ.aP,d.size=τ.size:=by
   intro d hd;obtain⟨z,_,rfl⟩:=b4W.1 hd;exact Ty.cN τ z
  obtain⟨g0,g1,g2,rfl,hlen,m1,m2⟩:=bR.split (xs.map τ.aP) i (τ.aP (xs.getD i τ.zero)) k2 cK (by simp[List.getD,hi]);obtain⟨v,p0,p1,p2,rfl,q1,q2,q3⟩:=TW hu cw m1;have hvl:l[i * τ.size+off]?=some v:=by
   rw[b6o,b5u n8,b6z] at q1;exact q1
  rw[b5G] at cR;obtain⟨hb,cR⟩:=cR;have TG:(p0++p1++p2).Nodup:=by
   rw[b5s,b5s] at cR;exact cR.1.2.1
  have hp1:p1.Nodup:=by
   rw[b5s,b5s] at TG;exact TG.1.2.1
  refine⟨rfl,v,p1,hvl,q2,hp1,λ b hb=>by simp[hb],λ w' u' y v' iE hp hw mR Ci hs'=>?_⟩;have dis:∀ c∈g0++(p0++p1++p2)++g2,c∉p1->w'.heap[c]?=w.heap[c]?:=λ c hc hn=>(hw c (b6l _ hc) hn).2 λ e=>by
   simp only[b4L,b6A,b5d] at e;subst e;exact hb hc
  have eA:∀ c,c∈p1->c∈p0++p1++p2:=λ c hc=>by simp[hc]
  rw[b5s,b5s] at cR;obtain⟨⟨n1,n2,n3⟩,n4,n5⟩:=cR;have h0:∀ c∈g0++g2,c∉p1:=λ c hc Ul=>by
   rcases b4Q.1 hc with hc|hc
   .exact n3 c hc c (eA c Ul) rfl
   .exact n5 c (b4Q.2 (.inr (eA c Ul))) c hc rfl
  have h00:∀ c∈p0++p2,c∉p1:=λ c hc Ul=>by
   rw[b5s,b5s] at TG;rcases b4Q.1 hc with hc|hc
   .exact TG.1.2.2 c hc c Ul rfl
   .exact TG.2.2 c (by simp[Ul]) c hc rfl
  have hy:=q3 w' u' y v' iE hp (λ c hc=>dis c (by simp at hc ⊢;rcases hc with hc|hc<;>simp[hc]) (h00 c hc)) mR;have eG:=m2 w' (τ.aP y) _ (p0++iE++p2) (λ c hc=>dis c (by simp at hc ⊢;rcases hc with hc|hc<;>simp[hc]) (h0 c hc)) (by simp only[List.length_set,List.length_take,List.length_drop];omega) hy;rw[a2O l _ _ _ v' n8 hlen,<-List.map_set] at eG;obtain⟨t',Up⟩:=(hw b (by simp) λ hc=>hb (by simp[hc])).1 rfl;refine⟨b::(g0++(p0++iE++p2)++g2),⟨_,_,_,cap,rfl,by simp,by simpa using h3,h4,by simpa using h5, .inr ⟨b,_,t',rfl,rfl,Up,by rw[List.length_set];exact k0,eG⟩⟩,?_,?_⟩
  .have hfr:∀ c∈iE,c∈p1\/(c∉p0/\c∉p2):=λ c hc=>(hs' c hc).imp id λ q=>⟨λ q'=>q (by simp[q']),λ q'=>q (by simp[q'])⟩;have qv:∀ c∈p0++iE++p2,c∈p0++p1++p2\/(c∉g0/\c∉g2):=λ c hc=>by
    simp only[b4Q] at hc;rcases hc with (hc|hc)|hc
    .exact .inl (by simp[hc])
    .rcases hs' c hc with q|q
     .exact .inl (by simp[q])
     .exact .inr ⟨λ q'=>q (by simp[q']),λ q'=>q (by simp[q'])⟩
    .exact .inl (by simp[hc])
   rw[b5G];refine⟨λ hc=>?_,BM (f1:=p0++p1++p2) (ei (ei n1 n2 λ x hx DE=>n3 x hx x DE rfl) n4 λ x hx DE=>n5 x hx x DE rfl) (BM TG Ci hfr) qv⟩;simp only[b4Q] at hc;rcases hc with (hc|(hc|hc)|hc)|hc
   .exact hb (by simp[hc])
   .exact hb (by simp[hc])
   .rcases hs' b hc with q|q
    .exact hb (by simp[q])
    .exact q (by simp)
   .exact hb (by simp[hc])
   .exact hb (by simp[hc])
  .intro c hc;simp only[b5h,b4Q] at hc;rcases hc with hc|(hc|(hc|hc)|hc)|hc
   .exact .inl (by simp[hc])
   .exact .inl (by simp[hc])
   .exact .inl (by simp[hc])
   .exact .inr hc
   .exact .inl (by simp[hc])
   .exact .inl (by simp[hc])
theorem a0C{lk:Nat->Option aB}{k:Int}{z:Value}(hz:VR c G lk w (.aH ⟨.int .i64,k⟩) z):z = .int .i64 k/\O k:=by
 obtain⟨h1,h2,h3⟩:=hz;simp only[b4X,b5d] at h1;refine⟨h1,?_⟩;simp only[IntKind.min,IntKind.max,IntKind.signed,IntKind.bits,b6M] at h2 h3;constructor<;>omega
theorem Xm(hE:bF c.P c.E)(h:Inv c G s a w){o:Oper}{f:FuncId}{m:CI}(hm:c.E.mark f=some m){id i off:Nat}{τ:Ty}{xs:List τ.den}(aY:s.ah id=some (.av τ xs)){u:TV}(hu:TV.part ⟨τ,xs.getD i τ.zero⟩ off m.τ=some u){x:m.τ.den}(hx:u.Z9 m.τ=some x)
  (wC:m.τ.agg=false) (n8:off<τ.size) {k:Int} {y:τ.den} (hy:kQ τ (xs.getD i τ.zero) off ⟨m.τ,(m.g x k).2.1⟩=some y) {v z:Value} {d:Nat}
  (hv:VR c G s.ah w (.sub id i off τ.size) v) (hz:VR c G s.ah w (.aH ⟨.int .i64,k⟩) z) (yI:(m.g x k).1.ok) (hd:o.dst=some d) (cI:iw c.P f->(execOp a.eval o).run c.P w = .ok (.enter f [v,z].toArray) w) {Q:Exit->Act->World->Prop} :
  o.wp c.P a w (λ a' w'=>∃ G',Inv c G' ((s.bU.dn id τ (xs.set i y)).put (some d) (.aH ⟨.int .i64,(m.g x k).2.2⟩)) a' w') Q:=by
 obtain⟨l7,gC⟩:=hE.mark f _ hm;obtain⟨rfl,a1W⟩:=a0C hz;obtain⟨_,a0,n,cap,l,ec,eA,hl,_⟩:=hv;have hux:=TV.aU hx;subst hux;obtain⟨rfl,v',f1,p1,p2,p3,p4,p5⟩:=Yl (h.aL.tr id τ xs aY) (h.aL.nd id τ xs aY) ec eA hu wC n8;rw[hl] at p1;simp only[b4L] at p1;subst p1;have hO:xH w ⟨m.τ,x⟩ v f1:=by
  obtain⟨LC,g⟩:=m;cases LC with
  | st s=>cases wC
  | _=>exact p2
 unfold Oper.wp;rw[cI l7];simp only[Oper.upon];refine (gC x k w v f1 yI a1W (h.a7z λ b hb=>(h.aL.pl id τ xs b aY (p4 b hb)).2.1) hO p3 λ b hb=>(h.aL.pl id τ xs b aY (p4 b hb)).2.2.1).mono ?_;rintro e w' ⟨rfl,WD,hk,iE,mR,L1,qv⟩;have hO2:Ow w' (TV.aP ⟨m.τ,(m.g x k).2.1⟩) [v] iE:=by
  obtain⟨LC,g⟩:=m;cases LC with
  | st s=>cases wC
  | _=>exact mR
 have yJ:l.set (i * τ.size+off) v=l:=by
  apply b7J;intro j;rw[b7K];split
  .rename_i e;subst e;split
   .exact hl.symm
   .rename_i hn;rw[b6J (by omega)]
  .rfl
 obtain⟨mP,hT,a7L,hs2⟩:=p5 w' ⟨m.τ,(m.g x k).2.1⟩ y v iE hy (λ b hb hn=>by
  have eU:=hk.block b (h.aL.pl id τ xs b aY hb).2.2.1 hn;refine⟨λ ha=>?_,λ _=>eU⟩;rw[eU,yJ];obtain⟨v0,l0,a1,V0,q1,q2,_,_,_,q6⟩:=h.aL.tr id τ xs aY;rw[ec] at q1;simp only[b6r] at q1;have q1:(Value.slice a0 xs.length cap::l)=v0::l0:=congrArg Array.toList q1;simp only[b4X] at q1;obtain⟨r1,r2⟩:=q1;subst r2;rw[q2,ha] at r1;simp only[b6v] at r1;rcases q6 with ⟨_,q7,_⟩|⟨b',f,t,q7,q8,q9,_⟩
  .rw[q7.1] at r1;cases r1.1
  .rw[q7] at r1;have r1:=r1.1;simp only[b4L,b6A,b5d] at r1;subst r1;exact⟨t,q9⟩) hO2 L1 (λ b hb=>(qv b hb).imp (λ q=>q) λ q q'=>by have:=(h.aL.pl id τ xs b aY q').2.2.1;omega)
 rw[yJ,<-ec] at hT;show ∃ G',Inv c G' ((s.bU.dn id τ (xs.set i y)).put (some d) (.aH ⟨.int .i64,(m.g x k).2.2⟩)) (a.put o.dst (.int .i64 (m.g x k).2.2)) w';rw[hd];refine h.Rn (w':=w') (t:=s.bU.dn id τ (xs.set i y)) (A:=[(id,(G.η id,mP, .av τ (xs.set i y)))]) ?_ ?_ ?_ (by simp) hk (λ b hb=>⟨_,b5t.2 rfl,p4 b hb⟩) rfl (λ i=>?_) (λ G' lk=>Q0 WD)
 .intro p hp;simp only[b5t] at hp;subst hp;exact⟨τ,xs,_,_,l,l,aY,rfl,ec,ec,hT,a7L⟩
 .intro p hp b hb;simp only[b5t] at hp;subst hp;rcases hs2 b hb with q|q
  .exact .inl ⟨_,b5t.2 rfl,q⟩
  .rcases qv b q with q|q
   .exact .inl ⟨_,b5t.2 rfl,p4 b q⟩
   .exact .inr (PJ h q.1 q.2)
 .intro p hp q hq b _ _;simp only[b5t] at hp hq;rw[hp,hq]
 .rw[JW,eQ]
theorem OW{lk:Nat->Option aB}:∀ {cs:List AV} {ts:List Ty} {us us':List TV} {ids:List Nat} {l:List Value} {mP:List Nat},tg lk cs ts=some (us,ids)->aT (C1 c G lk w) cs l->us'.map TV.τ=ts->cT w' (us'.map TV.aP) l mP->mP.Nodup->ids.Nodup ->
  (∀ id∈ids,cx (lk id)=true)->∃ A:List (Nat×TE),A.map (·.1)=ids/\(∀ p∈A,a1l G lk w' p.1 p.2)/\(∀ p∈A,∀ b∈p.2.2.1,b∈mP)/\(∀ p∈A,∀ q∈A,∀ b∈p.2.2.1,b∈q.2.2.1->p.1=q.1) /\
   ∀ s:aj,(s.gN cs us').aC=s.aC/\∀ i,(s.gN cs us').ah i=Vb A s.ah i
 | [],[],us,us',ids,l,mP,ht,hl,htt,hO,cR,hni,hT=>by
  simp only[tg,b4L,b4P] at ht;obtain⟨rfl,rfl⟩:=ht;exact⟨[],rfl,by simp,by simp,by simp,λ s=>by cases us'<;>exact⟨rfl,λ _=>rfl⟩⟩
 | cc::cs,t::ts,us,us',ids,l,mP,ht,hl,htt,hO,cR,hni,hT=>by
  simp only[tg] at ht;split at ht;case h_2=>cases ht
  case h_1 x i0 hx =>
  split at ht;case h_2=>cases ht
  case h_1 r j hr =>
  simp only[b4L,b4P] at ht;obtain⟨rfl,rfl⟩:=ht;match us',l,htt,hl,hO with
  | u'::us',v::l,htt,hl,hO =>
  simp only[b5J,b4X] at htt;obtain⟨YF,ht2⟩:=htt;obtain⟨v1,r1,f1,f2,e1,e2,o1,o2⟩:=hO;simp only[b4X] at e1;obtain⟨rfl,rfl⟩:=e1;subst e2;rw[b5s] at cR hni;obtain⟨kO,nd2,nd3⟩:=cR;obtain⟨ni1,ni2,ni3⟩:=hni;obtain⟨A,a1,a2,a3,a4,a5⟩:=OW hr hl.2 ht2 o2 nd2 ni2 (λ id aY=>hT id (by simp[aY]));have skip:i0=[]->(∀ s:aj,(s.gN (cc::cs) (u'::us'))=s.gN cs us')->∃ A:List (Nat×TE),A.map (·.1)=i0++j/\(∀ p∈A,a1l G lk w' p.1 p.2)/\(∀ p∈A,∀ b∈p.2.2.1,b∈f1++f2)/\(∀ p∈A,∀ q∈A,∀ b∈p.2.2.1,b∈q.2.2.1->p.1=q.1) /\
   ∀ s:aj,(s.gN (cc::cs) (u'::us')).aC=s.aC/\∀ i,(s.gN (cc::cs) (u'::us')).ah i=Vb A s.ah i:=λ hi hs =>
   ⟨A,by rw[hi];exact a1,a2,λ p hp b hb=>by simp[a3 p hp b hb],a4,λ s=>by rw[hs];exact a5 s⟩
  cases cc with
  | aH z =>
   simp only[ea] at hx;split at hx
   .simp only[b4L,b4P] at hx;exact skip hx.2.symm λ s=>by obtain⟨bf,y'⟩:=u';cases bf<;>rfl
   .cases hx
  | nil =>
   cases t with
   | slice t' =>
    simp only[ea,b4L,b4P] at hx;exact skip hx.2.symm λ s=>by obtain⟨bf,y'⟩:=u';cases bf<;>rfl
   | _=>cases hx
  | row id =>
   simp only[ea] at hx;split at hx
   .rename_i mV;split at hx
    .simp only[b4L,b4P] at hx;have:=hT id (by rw[<-hx.2];simp);rw[mV] at this;cases this
    .cases hx
   .cases hx
  | av id =>
   simp only[ea] at hx;split at hx
   .rename_i bf ys mV;split at hx
    .rename_i y' hy';simp only[b4L,b4P] at hx;obtain⟨_,rfl⟩:=hx;have e:=TV.aU hy';have et:Ty.slice bf=t:=congrArg TV.τ e;subst et;obtain⟨Y4,yu⟩:=u';have YF:Y4=Ty.slice bf:=YF;subst YF;obtain⟨_,l0,ec,_⟩:=hl.1;obtain⟨l',Ys,_⟩:=ie.XK (τ:=bf) (xs:=yu) o1;refine⟨(id,(.tuple (v::l').toArray,f1, .av bf yu))::A,by simp[a1],?_,?_,?_,λ s=>?_⟩
     .intro p hp;rcases b5h.1 hp with rfl|hp
      .exact⟨bf,ys,yu,v,l0,l',mV,rfl,ec,rfl,Ys,kO⟩
      .exact a2 p hp
     .intro p hp b hb;rcases b5h.1 hp with rfl|hp
      .exact b4Q.2 (.inl hb)
      .exact b4Q.2 (.inr (a3 p hp b hb))
     .intro p hp q hq b hb cA;rcases b5h.1 hp with rfl|hp<;>rcases b5h.1 hq with rfl|hq
      .rfl
      .exact absurd rfl (nd3 b hb b (a3 q hq b cA))
      .exact absurd rfl (nd3 b cA b (a3 p hp b hb))
      .exact a4 p hp q hq b hb cA
     .obtain⟨q1,q2⟩:=a5 (s.dn id bf yu);refine⟨q1,λ i=>?_⟩;have lg:(s.gN (.av id::cs) (⟨.slice bf,yu⟩::us')).ah i=Vb A (s.dn id bf yu).ah i:=q2 i;rw[lg];have fM:∀ e,ah A id=some e->False:=λ e he=>by
       have:id∈A.map (·.1):=b4W.2 ⟨_,eW he,rfl⟩;rw[a1] at this;exact ni3 id (by simp) id this rfl
      unfold Vb;simp only[ah];by_cases hi:i=id
      .subst hi;cases hA:ah A i with
       | none=>simp[eQ]
       | some e=>exact (fM e hA).elim
      .have:Nat.beq id i=false:=by
        cases hb:Nat.beq id i with
        | false=>rfl
        | true=>exact absurd (b4O hb).symm hi
       simp only[this];cases ah A i with
       | none=>simp[eQ,hi]
       | some e=>rfl
    .cases hx
   .cases hx
  | _=>cases hx
 | [],_::_,_,_,_,_,_,ht,_,_,_,_,_,_=>by cases ht
 | _::_,[],_,_,_,_,_,ht,_,_,_,_,_,_=>by cases ht
theorem Xl(hE:bF c.P c.E)(h:Inv c G s a w){o:Oper}{f:FuncId}{m:CI}(hm:c.E.mark f=some m){cs:List AV}{x:m.τ.den}{ids:List Nat}(ht:rh s.ah m.τ (.agg cs)=some (x,ids))(cR:ids.Nodup)(hT:∀ id∈ids,cx (s.ah id)=true)
  {k:Int} {v z:Value} {d:Nat} (hv:VR c G s.ah w (.agg cs) v) (hz:VR c G s.ah w (.aH ⟨.int .i64,k⟩) z) (yI:(m.g x k).1.ok) (hd:o.dst=some d) (cI:iw c.P f->(execOp a.eval o).run c.P w = .ok (.enter f [v,z].toArray) w) {Q:Exit->Act->World->Prop} :
  o.wp c.P a w (λ a' w'=>∃ G',Inv c G' ((s.bU.gN cs (TV.cells ⟨m.τ,(m.g x k).2.1⟩)).put (some d) (.aH ⟨.int .i64,(m.g x k).2.2⟩)) a' w') Q:=by
 obtain⟨l7,gC⟩:=hE.mark f _ hm;obtain⟨rfl,a1W⟩:=a0C hz;obtain⟨fp,hO,TG,jM⟩:=mz h ht hv cR;have bK:∀ b∈fp,b<w.heap.size:=λ b hb=>by
  obtain⟨id,hi,hq⟩:=jM b hb;rcases hq with ⟨τ,xs,q1,q2⟩|⟨e,τ,xs,q1,q2⟩
  .exact (h.aL.pl id τ xs b q1 q2).2.2.1
  .exact (h.place id _ b q1 q2).2.2
 have Ql:∀ b,wZ G s.ah ids b->∃ id∈ids,b∈G.φ id:=λ b hb=>by
  obtain⟨id,hi,hq⟩:=hb;rcases hq with ⟨τ,xs,q1,q2⟩|⟨e,τ,xs,q1,q2⟩
  .exact⟨id,hi,q2⟩
  .have:=hT id hi;rw[q1] at this;cases this
 unfold Oper.wp;rw[cI l7];simp only[Oper.upon];refine (gC x k w v fp yI a1W (h.a7z λ b hb=>by
  obtain⟨id,hi,hq⟩:=jM b hb;rcases hq with ⟨τ,xs,q1,q2⟩|⟨e,τ,xs,q1,q2⟩
  .exact (h.aL.pl id τ xs b q1 q2).2.1
  .exact (h.place id _ b q1 q2).2.1) hO TG bK).mono ?_
 rintro e w' ⟨rfl,WD,hk,mP,mR,L1,qv⟩;show ∃ G',Inv c G' ((s.bU.gN cs (TV.cells ⟨m.τ,(m.g x k).2.1⟩)).put (some d) (.aH ⟨.int .i64,(m.g x k).2.2⟩)) (a.put o.dst (.int .i64 (m.g x k).2.2)) w';rw[hd];obtain⟨LC,g⟩:=m;cases LC with
 | st st =>
  simp only[rh] at ht;split at ht;case h_2=>cases ht
  case h_1 us i0 kj =>
  split at ht;case h_2=>cases ht
  case h_1 y0 hy0 =>
  simp only[b4L,b4P] at ht;obtain⟨rfl,rfl⟩:=ht;obtain⟨l,rfl,hl⟩:=hv;obtain⟨l2,hl2,mR⟩:=mR;simp only[Value.agg.injEq] at hl2;have hl2:l=l2:=congrArg Array.toList hl2;subst hl2;rw[show ((⟨.st st,g⟩:CI).g y0 k).2.1=(g y0 k).2.1 from rfl,aV.cz] at mR;obtain⟨A,a1,a2,a3,a4,a5⟩:=OW (us':=st.cells (g y0 k).2.1) kj hl (aV.oJ st _) mR L1 cR hT;obtain⟨q1,q2⟩:=a5 s.bU;have b0R:∀ id∈i0,∃ p∈A,p.1=id:=λ id aY=>by
   rw[<-a1] at aY;obtain⟨p,hp,rfl⟩:=b4W.1 aY;exact⟨p,hp,rfl⟩
  refine h.Rn (w':=w') (t:=s.bU.gN cs (st.cells (g y0 k).2.1)) (A:=A) a2 ?_ a4 (by rw[a1];exact cR) hk ?_ q1 q2 (λ G' lk=>Q0 WD)
  .intro p hp b hb;rcases qv b (a3 p hp b hb) with q|q
   .obtain⟨id,hi,qp⟩:=Ql b (jM b q);obtain⟨q,hq,rfl⟩:=b0R id hi;exact .inl ⟨q,hq,qp⟩
   .exact .inr (PJ h q.1 q.2)
  .intro b hb;obtain⟨id,hi,qp⟩:=Ql b (jM b hb);obtain⟨q,hq,rfl⟩:=b0R id hi;exact⟨q,hq,qp⟩
 | _=>cases ht
end
section
variable {c:Ctx} {G:Gh} {s:aj} {a:Act} {w w':World}
theorem Ey(h:Inv c G s a w){o:Oper}{v:AV}{x:Value}{Q:Exit->Act->World->Prop}(hr:(execOp a.eval o).run c.P w = .ok (.value x) w)(hv:VR c G s.ah w v x) :
  o.wp c.P a w (λ a' w'=>∃ G',Inv c G' (s.put o.dst v) a' w') Q:=by
 unfold Oper.wp;rw[hr];exact⟨G,Inv.put h hv⟩
theorem xC{η:Value}{τ:Ty}{xs:List τ.den}{fp:List Nat}(hT:ie w η τ xs fp){a0:Option Addr}{n cap:Nat}{l:List Value}(ec:η = .tuple (.slice a0 n cap::l).toArray){i:Nat}(hi:i<n) :
  n=xs.length/\∃ b f t,a0=some ⟨b,0,none⟩/\fp=b::f/\w.heap[b]?=some (.cells l.toArray t (0,0))/\bR w (xs.map τ.aP) l f:=by
 obtain⟨v0,l0,a1,V0,h1,h2,h3,h4,h5,h6⟩:=hT;rw[ec] at h1;simp only[b6r] at h1;have h1:(Value.slice a0 n cap::l)=v0::l0:=congrArg Array.toList h1;simp only[b4X] at h1;obtain⟨hq,IT⟩:=h1;subst IT;rw[h2] at hq;simp only[b6v] at hq;obtain⟨rfl,rfl,rfl⟩:=hq;rcases h6 with ⟨rfl,_,_⟩|⟨b,f,t,q1,q2,q3,q4⟩
 .simp at hi
 .exact⟨rfl,b,f,t,q1,q2,q3,q4.2⟩
theorem Rq{t:Ty}{x:Value}(h:C1 c G s.ah w (zeroCell t) x)(ht:t.agg=false):Ow w (t.aP t.zero) [x] []:=by
 cases t with
 | slice t' =>
  have h:x = .slice none 0 0:=h;subst h;exact⟨none,0,rfl,b5w _,by simp[maxLen],b5Y _, .inl ⟨rfl,⟨rfl,rfl⟩,rfl⟩⟩
 | st s=>cases ht
 | mv t=>exact Ow.ew (S:=G.S) _ rfl h.2
 | ptr=>exact Ow.ew (S:=G.S) _ rfl h.2
 | int k=>exact Ow.ew (S:=G.S) _ rfl h.2
 | bool=>exact Ow.ew (S:=G.S) _ rfl h.2
 | str=>exact Ow.ew (S:=G.S) _ rfl h.2
theorem a5T(s:aV):∀ t∈s.tA,t.agg=false:=λ t ht=>by
 rw[<-aV.oJ s s.zero] at ht;obtain⟨u,hu,rfl⟩:=b4W.1 ht;exact Mt s _ u hu
theorem a9o{c:Ctx}{G:Gh}{s:aj}{τ:Ty}{z:Value}(h:BT τ z=true):Ow w (τ.aP τ.zero) z.cells.toList []:=by
 have h1:=kV (c:=c) (G:=G) (lk:=s.ah) (w:=w) h;cases τ with
 | st st =>
  simp only[zeroCells] at h1;show Ow w (st.aP st.zero) _ [];rw[aV.cz];have hz:(st.cells st.zero).map TV.aP=st.tA.map λ t=>t.aP t.zero:=by cases st<;>rfl
  rw[hz];have h2:=aT.of_map _ h1;have:∀ (ts:List Ty) (vs:List Value),aT (λ t x=>Ow w (t.aP t.zero) [x] []) ts vs->cT w (ts.map λ t=>t.aP t.zero) vs []:=by
   intro ts;induction ts with
   | nil=>intro vs h;cases vs<;>first|exact⟨rfl,rfl⟩|cases h
   | cons t ts ih =>
    intro vs h;cases vs with
    | nil=>cases h
    | cons v vs=>exact⟨v,vs,[],[],rfl,rfl,h.1,ih vs h.2⟩
  exact this _ _ (h2.imp λ t x ht hx=>Rq hx (a5T st t ht))
 | _ =>
  simp only[zeroCells] at h1;match hc:z.cells.toList,h1 with
  | [x],h1=>exact Rq h1.1 rfl
theorem bR.a1n:∀ (ds:List D) {es:List D} {l m:List Value} {n:Nat},bR w ds l []->(∀ d∈ds,d.size=n)->l.length=ds.length * n->bR w es m []->bR w (ds++es) (l++m) []
 | [],es,l,m,n,_,_,hl,h=>by
  have:l=[]:=List.eq_nil_of_length_eq_zero (by simpa using hl);subst this;simpa using h
 | d::ds,es,l,m,n,h,hn,hl,h'=>by
  obtain⟨cc,r,f1,f2,rfl,hf,h3,h4⟩:=h;have hf:=(List.append_eq_nil_iff.1 hf.symm);obtain⟨rfl,rfl⟩:=hf;have hc:cc.length=n:=by rw[Ow.length _ h3];exact hn d (by simp)
  refine⟨cc,r++m,[],[],by simp,rfl,h3,bR.a1n ds h4 (λ d hd=>hn d (by simp[hd])) ?_ h'⟩;simp only[b5f,b4Y,b6i,Nat.one_mul] at hl;omega
theorem bR.more:∀ (ds:List D) {l:List Value} {fp:List Nat} (m:List Value),bR w ds l fp->bR w ds (l++m) fp
 | [],_,_,_,h=>h
 | d::ds,_,_,m,h=>by
  obtain⟨cc,r,f1,f2,rfl,hf,h3,h4⟩:=h;exact⟨cc,r++m,f1,f2,by simp,hf,h3,bR.more ds m h4⟩
theorem L7{d:D}{z:Array Value}(h:Ow w d z.toList []):∀ k:Nat,bR w (List.replicate k d) (madeCells z (k * z.size)).toList []
 | 0=>rfl
 | k+1=>by
  have hz:d.size=z.size:=by have:=Ow.length _ h;simpa using this.symm
  rw[GJ,b7x];refine bR.a1n (n:=z.size) _ (L7 h k) (λ e he=>by rw[List.eq_of_mem_replicate he];exact hz) (by simp[madeCells]) ⟨z.toList,[],[],[],by simp,rfl,h,rfl⟩
theorem RV(h:Inv c G s a w)(id:Nat):Inv c G (s.gone id) a w:=by
 obtain⟨h1,_,_⟩:=h.clear id;have ct:(s.gone id).ah=λ i=>if i=id then none else (s.cq id).ah i:=by
  funext i;exact eI id _ i
 unfold Inv;show bw c G (s.cq id).sl (s.cq id).aC.length (s.gone id).ah a w;rw[ct,show (s.cq id).aC.length=s.aC.length from by simp[aj.cq]];exact h1
theorem Fw(s:aj)(id i:Nat):(s.gone id).ah i=if i=id then none else (s.ah i).map (aB.kill id):=by
 show ah (bS id (s.cq id).aJ) i=_;rw[eI,<-congrFun (en s id) i];rfl
theorem yz:∀ (ids:List Nat) {s:aj},Inv c G s a w->Inv c G (ids.foldl aj.gone s) a w
 | [],_,h=>h
 | id::r,_,h=>yz r (RV h id)
theorem a3T(id:Nat){τ:Ty}{xs:List τ.den}{o:Option aB}(h:o=some (.av τ xs)):o.map (aB.kill id)=some (.av τ xs):=by subst h;rfl
theorem TA:∀ (ids:List Nat) {s:aj} {id:Nat} {τ:Ty} {xs:List τ.den},s.ah id=some (.av τ xs)->id∉ids->(ids.foldl aj.gone s).ah id=some (.av τ xs)
 | [],_,_,_,_,h,_=>h
 | i::r,s,id,τ,xs,h,hn=>by
  refine TA r ?_ (λ hh=>hn (by simp[hh]));rw[Fw,b4Z (λ e=>hn (by simp[e]))];exact a3T i h
theorem M4:∀ (ids:List Nat) {s:aj} {i:Nat} {o:aB},(ids.foldl aj.gone s).ah i=some o->i∉ids/\∃ o',s.ah i=some o'/\∀ τ xs,o = .av τ xs->o' = .av τ xs
 | [],s,i,o,h=>⟨by simp,o,h,λ _ _ e=>e⟩
 | id::r,s,i,o,h=>by
  obtain⟨h1,o',h2,h3⟩:=M4 r h;rw[Fw] at h2;split at h2
  .cases h2
  .rename_i eR;simp only[b5L] at h2;obtain⟨p,hp,hk⟩:=h2;refine⟨by simp[eR,h1],p,hp,λ τ xs e=>?_⟩;have:=h3 τ xs e;subst this;have hm:(some p).map (aB.kill id)=some (.av τ xs):=by rw[<-hk];rfl
   have:=jH hm;simpa using this
theorem JR{o:Oper}{T:TypeId}{ad x:Operand}(bz:o.op = .store T ad x){w':World}{s':aj}{G':Gh}(hr:(Instr.storeAt T (a.eval ad) (a.eval x)).run c.P w = .ok () w')(hI:Inv c G' (s'.put none .any) a w'){Q:Exit->Act->World->Prop} :
  o.wp c.P a w (λ a' w'=>∃ G',Inv c G' (s'.put o.dst .any) a' w') Q:=by
 unfold Oper.wp;have:(execOp a.eval o).run c.P w = .ok .skip w':=by simp only[execOp,bz,Sem.run_bind,hr,Result.andThen_ok,Sem.run_pure]
 rw[this];exact⟨G',Inv.put (s:=s') hI trivial⟩
theorem X8(hE:bF c.P c.E)(h:Inv c G s a w){T:TypeId}{τ bf:Ty}{bt e:Nat}(hT:ah c.E.ty T=some (τ,bt,e)){id i off:Nat}{xs:List bf.den}(aY:s.ah id=some (.av bf xs)){p x:Value}(hp:VR c G s.ah w (.eP id i off bf.size) p)(n8:off+τ.size<=bf.size)
  (vI:x.cells.toList.length=τ.size) (IS:∀ u∈x.cells.toList,u.oneCell'=true) {y:bf.den}
  (hO:∀ (b:Nat) (f:List Nat) (l:List Value) (w':World),G.φ id=b::f->l.length>=i * bf.size+bf.size->bR w (xs.map bf.aP) l f->(∀ k,k≠b->w'.heap[k]?=w.heap[k]?) ->
   ∃ f',bR w' ((xs.set i y).map bf.aP) (l.take (i * bf.size+off)++x.cells.toList++l.drop (i * bf.size+off+τ.size)) f'/\f'.Nodup/\b∉f'/\∀ k∈f',k∈f\/wY c G s.ah w k) :
  ∃ w' G',(Instr.storeAt T p x).run c.P w = .ok () w'/\Inv c G' (s.bU.dn id bf (xs.set i y)) a w':=by
 obtain⟨_,b,n,cap,l,ec,hi,rfl⟩:=hp;obtain⟨rfl,b',f,t,e1,jM,hh,eG⟩:=xC (h.aL.tr id bf xs aY) ec hi;simp only[b4L,b6A,b5d] at e1;subst e1;have cK:∀ d∈xs.map bf.aP,d.size=bf.size:=by
  intro d hd;obtain⟨z,_,rfl⟩:=b4W.1 hd;exact Ty.cN bf z
 obtain⟨_,_,_,_,hlen,_,_⟩:=bR.split (xs.map bf.aP) i (bf.aP (xs.getD i bf.zero)) eG cK (by simp[List.getD,hi]);have cI:=xn (c:=c) (l:=l) hE hT (o:=i * bf.size+off) (x:=x) hh vI IS (by omega);have DB:∀ k,k≠b->(w.setRow b (l.take (i * bf.size+off)++x.cells.toList++l.drop (i * bf.size+off+τ.size)).toArray).heap[k]?=w.heap[k]?:=λ k hk=>mU w hh k hk;obtain⟨f',k1,k2,k3,k4⟩:=hO b f l _ jM hlen eG DB;have rC:=b8S w b l.toArray (l.take (i * bf.size+off)++x.cells.toList++l.drop (i * bf.size+off+τ.size)).toArray t (0,0) hh;have Ys:ie (w.setRow b (l.take (i * bf.size+off)++x.cells.toList++l.drop (i * bf.size+off+τ.size)).toArray) (.tuple (.slice (some ⟨b,0,none⟩) xs.length cap::(l.take (i * bf.size+off)++x.cells.toList++l.drop (i * bf.size+off+τ.size))).toArray) bf (xs.set i y) (b::f'):=by
  obtain⟨v0,l0,a1,V0,h1,h2,h3,h4,h5,h6⟩:=h.aL.tr id bf xs aY;rw[ec] at h1;simp only[b6r] at h1;have h1:(Value.slice (some ⟨b,0,none⟩) xs.length cap::l)=v0::l0:=congrArg Array.toList h1;simp only[b4X] at h1;obtain⟨hq,IT⟩:=h1;rw[h2] at hq;simp only[b6v] at hq;obtain⟨rfl,_,rfl⟩:=hq;have Gc:l.length=cap * bf.size:=by
   rw[IT];rcases h6 with ⟨_,h',_⟩|⟨_,_,_,_,_,_,k0,_⟩
   .cases h'.1
   .exact k0
  exact⟨_,_,_,cap,rfl,by simp,by simpa using h3,h4,by simpa using h5, .inr ⟨b,f',t,rfl,rfl,rC,by rw[<-Gc];simp only[List.length_append,List.length_take,List.length_drop,vI];omega,k1⟩⟩
 have WK:=h.aL.pl id bf xs;have:=h.Rn (w':=w.setRow b (l.take (i * bf.size+off)++x.cells.toList++l.drop (i * bf.size+off+τ.size)).toArray) (t:=s.bU.dn id bf (xs.set i y)) (F:=λ k=>k=b)
  (A:=[(id,(.tuple (.slice (some ⟨b,0,none⟩) xs.length cap::(l.take (i * bf.size+off)++x.cells.toList++l.drop (i * bf.size+off+τ.size))).toArray,b::f', .av bf (xs.set i y)))]) ?_ ?_ ?_ (by simp)
  ⟨rfl,rfl,rfl,by simp[World.setRow],λ k hk eR=>DB k eR⟩ (λ k hk=>⟨_,b5t.2 rfl,by rw[jM,hk];simp⟩) rfl (λ j=>?_) (d:=none) (v := .any) (x:=undef) (λ _ _=>trivial)
 .obtain⟨G',hG⟩:=this;exact⟨_,G',cI,hG⟩
 .intro p hp;simp only[b5t] at hp;subst hp;exact⟨bf,xs,_,_,l,_,aY,rfl,ec,rfl,Ys,b5G.2 ⟨k3,k2⟩⟩
 .intro p hp k hk;simp only[b5t] at hp;subst hp;rcases b5h.1 hk with rfl|hk
  .exact .inl ⟨_,b5t.2 rfl,by rw[jM];simp⟩
  .rcases k4 k hk with hk|hk
   .exact .inl ⟨_,b5t.2 rfl,by rw[jM];simp[hk]⟩
   .exact .inr (hk.grow (by simp[World.setRow]))
 .intro p hp q hq k _ _;simp only[b5t] at hp hq;rw[hp,hq]
 .rw[JW,eQ]
theorem xH.cells{w:World}{τ:Ty}{y:τ.den}{x:Value}{fp:List Nat}(h:xH w ⟨τ,y⟩ x fp):Ow w (τ.aP y) x.cells.toList fp:=by
 cases τ with
 | st s =>
  obtain⟨cs,rfl,h⟩:=h;exact h
 | slice t =>
  obtain⟨a',cap,h1,_⟩:=id h;simp only[b4X,b5d] at h1;subst h1;exact h
 | mv t =>
  have h1:=Ow.length _ (show Ow w (mvD t.size t.aP y) [x] fp from h);cases hy:(show Option (List t.den) from y) with
  | none =>
   have e:y=(none:Option (List t.den)):=hy;subst e;obtain⟨⟨a',n,m,h1⟩,_⟩:=id h;simp only[b4X,b5d] at h1;subst h1;exact h
  | some l =>
   have e:y=(some l:Option (List t.den)):=hy;subst e;obtain⟨a',cap,h1,_⟩:=id h;simp only[b4X,b5d] at h1;subst h1;exact h
 | ptr=>obtain⟨⟨p,h1⟩,_⟩:=id h;simp only[b4X,b5d] at h1;subst h1;exact h
 | int k=>obtain⟨⟨h1,_⟩,_⟩:=id h;simp only[b4X,b5d] at h1;subst h1;exact h
 | bool=>have h1:=h.1;simp only[b4X,b5d] at h1;subst h1;exact h
 | str=>obtain⟨⟨z,h1,_⟩,_⟩:=id h;simp only[b4X,b5d] at h1;subst h1;exact h
theorem X1(l:List Value)(k:Nat)(v:Value)(h:k<l.length):l.take k++[v]++l.drop (k+1)=l.set k v:=by
 rw[List.set_eq_take_append_cons_drop,b5u h,b5O];rfl
theorem PM(h:Inv c G s a w){ids:List Nat}{b:Nat}(hb:wZ G s.ah ids b):wY c G (ids.foldl aj.gone s).ah w b:=by
 obtain⟨id,hi,hq⟩:=hb;have hp:(c.w0.heap.size<=b\/c.X b)/\¬ G.S b/\b<w.heap.size:=by
  rcases hq with ⟨τ,xs,q1,q2⟩|⟨e,τ,xs,q1,q2⟩
  .obtain⟨p1,p2,p3,_⟩:=h.aL.pl id τ xs b q1 q2;exact⟨p1,p2,p3⟩
  .obtain⟨p1,p2,p3⟩:=h.place id _ b q1 q2;exact⟨p1,p2,p3⟩
 refine⟨hp.1,hp.2.1,hp.2.2,λ i o cG qp=>?_,λ j τ xs hj nS=>?_⟩
 .obtain⟨h1,o',h2,_⟩:=M4 ids cG;rcases hq with ⟨τ,xs,q1,q2⟩|⟨e,τ,xs,q1,q2⟩
  .exact (h.aL.pl id τ xs b q1 q2).2.2.2 i o' h2 qp
  .have:=h.apart i id o' _ b h2 q1 qp q2;subst this;exact h1 hi
 .obtain⟨h1,o',h2,h3⟩:=M4 ids hj;have:=h3 τ xs rfl;subst this;rcases hq with ⟨bf,cS,q1,q2⟩|⟨e,bf,cS,q1,q2⟩
  .have:=h.aL.ap j id _ _ _ _ b h2 q1 nS q2;subst this;exact h1 hi
  .exact (h.aL.pl j τ xs b h2 nS).2.2.2 id _ q1 q2
theorem Ve{l:List Operand}{u v:AV}(h:Inv c G s a w)(hl:l.map s.eval=[u,v]):∃ x y,l.map a.eval=[x,y]/\VR c G s.ah w u x/\VR c G s.ah w v y:=by
 have:=aT.kz (bp h) l;rw[hl] at this;match hx:l.map a.eval,this with
 | [x,y],hh=>exact⟨x,y,rfl,hh.1,hh.2.1⟩
theorem Ix{lk:Nat->Option aB}{id i sz:Nat}(hit:cx (lk id)=true){a0:Option Addr}{n cap:Nat}{l:List Value}(ec:G.η id = .tuple (.slice a0 n cap::l).toArray)(eA:i<n):∀ (us:List TV) (j:Nat) (cs:List Value) (fp:List Nat),(∀ u∈us,a3z u.τ=true) ->
  cT w (us.map TV.aP) cs fp->(∀ k x,cs[k]?=some x->l[i * sz+(j+k)]?=some x)->aT (C1 c G lk w) (RQ id i sz j us) cs
 | [],j,cs,fp,_,h,_=>by
  obtain⟨rfl,_⟩:=h;trivial
 | ⟨τ,y⟩::us,j,cs,fp,YD,h,hl=>by
  obtain⟨v,r,f1,f2,rfl,rfl,h3,h4⟩:=h;have ih:=Ix hit ec eA us (j+1) r f2 (λ u hu=>YD u (List.mem_cons_of_mem _ hu)) h4 (λ k x hk=>by have:=hl (k+1) x (by simpa using hk);rwa [show j+(k+1)=j+1+k by omega] at this);have ho:a3z τ=true:=YD ⟨τ,y⟩ (by simp);have hv:=hl 0 v rfl;refine⟨?_,ih⟩;cases τ with
  | slice t =>
   refine⟨hit,_,_,_,_,ec,eA,hv,?_⟩;obtain⟨a',Tt,q,_⟩:=h3;simp only[b4X,b5d] at q;exact⟨_,_,_,q⟩
  | mv t=>cases ho
  | st s=>cases ho
  | int k=>exact⟨rfl,h3.1⟩
  | bool=>exact⟨rfl,h3.1⟩
  | str=>exact⟨rfl,h3.1⟩
  | ptr=>exact⟨rfl,h3.1⟩
theorem a4p(hE:bF c.P c.E)(h:Inv c G s a w){o:Oper}{vc:Vc}{s':aj}(hq:oop c.E s o=some (vc,s'))(eb:vc.ok){Q:Exit->Act->World->Prop} :
  o.wp c.P a w (λ a' w'=>∃ G',Inv c G' s' a' w') Q:=by
 unfold oop at hq;split at hq;case h_1 T x ix bz =>
  split at hq;case h_2=>cases hq
  case h_1 τ r hT =>
  split at hq;case h_2=>cases hq
  case h_1 k i id hi hx =>
  split at hq;case h_2=>cases hq
  case h_1 bf xs aY =>
  split at hq;case h_2=>cases hq
  case h_1 jB =>
  have cK:bf.size=τ.size:=by
   simp only[b6G] at jB;rcases jB with jB|jB
   .rw[b5E jB]
   .unfold Ty.b0Z at jB;split at jB
    .rename_i p q;have e:=congrArg List.length (b5E jB);rw[b5g] at e;have e1:=congrArg List.length (aV.oJ p p.zero);have e2:=congrArg List.length (aV.oJ q q.zero);rw[b5g,aV.iV] at e1 e2;simp only[Ty.size];omega
    .cases jB
  simp only[b4L,b4P] at hq;obtain⟨rfl,rfl⟩:=hq;have vG:=bp h ix;rw[hi] at vG;obtain⟨vG,_⟩:=vG;simp only[b4X,b5d] at vG;have hv:=bp h x;rw[hx] at hv;obtain⟨hit,l,ec,ad,m,cap,Aq⟩:=hv;obtain⟨h0,h1⟩:=eb;have hTr:=h.aL.tr id bf xs aY;rw[Aq] at ec;have hm:m=xs.length:=by
   obtain⟨v0,l0,a1,V0,q1,q2,_⟩:=hTr;rw[ec] at q1;simp only[b6r] at q1;have q1:(Value.slice ad m cap::l)=v0::l0:=congrArg Array.toList q1;simp only[b4X] at q1;rw[q2] at q1;simp only[b6v] at q1;exact q1.1.2.1
  subst hm;obtain⟨_,b,f,t,e1,_⟩:=xC hTr ec (i:=i.toNat) (by omega);subst e1;refine Ey h (x := .pointer (some ⟨b,0+i.toNat * τ.size,none⟩)) ?_ ⟨hit,b,_,cap,l,ec,by omega,by simp⟩;simp only[execOp,bz,Aq,vG,b5x,ra hE hT h0 h1,b5r,b5A]
 case h_2 T x i bz =>
  split at hq;case h_2=>cases hq
  case h_1 st r hT =>
  split at hq;case h_2=>cases hq
  case h_1 id k off sz hx =>
  split at hq;case h_2=>cases hq
  case h_1 bK =>
  simp only[Option.some.injEq,Prod.mk.injEq] at hq;obtain⟨rfl,rfl⟩:=hq;have bK:i<st.fX.length:=by simpa [Nat.blt_eq] using bK
  have hv:=bp h x;rw[hx] at hv;obtain⟨h1,b,m,cap,l,h2,h3,h4⟩:=hv;refine Ey h (x := .pointer (some ⟨b,k * sz+(off+st.fu i),none⟩)) ?_ ⟨h1,b,m,cap,l,h2,h3,rfl⟩;simp only[execOp,bz,h4,b5x,kE hE hT bK,b5r,b5A,b7L]
 case h_3 T ad bz =>
  split at hq;case h_2=>cases hq
  case h_1 τ r hT =>
  split at hq;case h_2=>cases hq
  case h_1 id i off sz hx =>
  split at hq;case h_2=>cases hq
  case h_1 bf xs aY =>
  split at hq;case h_2 =>
   unfold a2g at hq;split at hq;case h_2=>cases hq
   case h_1 q fM =>
   clear fM;split at hq;case h_2=>cases hq
   case h_1 y hb hy =>
   simp only[b4L,b4P] at hq;obtain⟨rfl,rfl⟩:=hq;have hpq:bf = .st q/\HEq (xs.getD i bf.zero) y:=by
    have e:=TV.aU hy;simp only[TV.mk.injEq] at e;exact e
   obtain⟨rfl,e2⟩:=hpq;have e2:=b7O e2;simp only[b4S] at hb;obtain⟨yD,Fg,RZ⟩:=hb;have yD:=b4O yD;have Fg:=b4O Fg;subst yD Fg;have hv:=bp h ad;rw[hx] at hv;obtain⟨h1,b,m,cap,l,h2,h3,h4⟩:=hv;have Ys:=h.aL.tr id _ xs aY;obtain⟨hn,b',f,t,e1,Ql,hh,eG⟩:=xC Ys h2 h3;simp only[b4L,b6A,b5d] at e1;subst e1;have WS:i<xs.length:=by omega
   have Gc:l.length=cap * q.size/\xs.length<=cap:=by
    obtain⟨v0,l0,a1,V0,k1,k2,k3,k4,k5,k6⟩:=Ys;rw[h2] at k1;simp only[b6r] at k1;have k1:(Value.slice (some ⟨b,0,none⟩) m cap::l)=v0::l0:=congrArg Array.toList k1;simp only[b4X] at k1;obtain⟨k7,rfl⟩:=k1;rw[k2] at k7;simp only[b6v] at k7;obtain⟨_,_,rfl⟩:=k7;rcases k6 with ⟨rfl,_,_⟩|⟨_,_,_,_,_,_,k8,_⟩
    .simp at WS
    .exact⟨k8,k3⟩
   have cK:∀ d∈xs.map (Ty.aP (.st q)),d.size=q.size:=λ d hd=>by
    obtain⟨z,_,rfl⟩:=b4W.1 hd;exact Ty.cN (.st q) z
   obtain⟨f0,f1,f2,hf,m0,m1,m2⟩:=bR.split (xs.map (Ty.aP (.st q))) i (Ty.aP (.st q) (xs.getD i (Ty.zero (.st q)))) eG cK (by simp[List.getD,WS]);have wD:((l.drop (i * q.size)).take q.size).length=q.size:=by
    rw[b5n,b6f,Gc.1];have:i * q.size+q.size<=cap * q.size:=by rw[<-Nat.succ_mul];exact b6N _ (by omega)
    omega
   have m1:cT w ((q.cells y).map TV.aP) ((l.drop (i * q.size)).take q.size) f1:=by
    have:=m1;rw[show Ty.aP (.st q) (xs.getD i (Ty.zero (.st q)))=q.aP (xs.getD i (Ty.zero (.st q))) from rfl,aV.cz] at this;rw[<-e2];exact this
   have TF:∀ k x,((l.drop (i * q.size)).take q.size)[k]?=some x->l[i * q.size+k]?=some x:=λ k x hk=>by
    rw[b6o] at hk;split at hk
    .rwa [b6z] at hk
    .cases hk
   have qq:cf w b (i * q.size+0) ((l.drop (i * q.size)).take q.size):=λ j z hj=>by
    simp[World.cell?,hh,TF j z hj]
   refine Ey h (x := .agg ((l.drop (i * q.size)).take q.size).toArray) ?_ ⟨_,rfl,Ix h1 h2 h3 (q.cells y) 0 _ f1 (λ u hu=>?_) m1 (λ k x hk=>by rw[b6w];exact TF k x hk)⟩
   .simp only[execOp,bz,h4,b5x,jS hE hT qq wD,b5r,b5A];rfl
   .have:u.τ∈q.tA:=by rw[<-aV.oJ q y];exact b4W.2 ⟨u,hu,rfl⟩
    exact b5F.1 RZ _ this
  case h_1 u hu hb =>
  simp only[Bool.and_eq_true,Bool.not_eq_true'] at hb;obtain⟨yD,Fg,RZ⟩:=hb;have yD:=Nat.eq_of_beq_eq_true yD;subst yD;have RZ:off<bf.size:=by simpa [Nat.blt_eq] using RZ
  have hv:=bp h ad;rw[hx] at hv;obtain⟨h1,b,m,cap,l,h2,h3,h4⟩:=hv;obtain⟨rfl,v,f1,p1,p2,_⟩:=Yl (h.aL.tr id bf xs aY) (h.aL.nd id bf xs aY) h2 h3 hu Fg RZ;obtain⟨_,b',f,t,e1,_,hh,_⟩:=xC (h.aL.tr id bf xs aY) h2 h3;simp only[b4L,b6A,b5d] at e1;subst e1;have qq:cf w b (i * bf.size+off) [v]:=λ j z hj=>by
   cases j with
   | zero =>
    simp at hj;subst hj;simp[World.cell?,hh,p1]
   | succ j=>simp at hj
  have hs1:τ.size=1:=Ty.jL Fg;have cI:(execOp a.eval o).run c.P w = .ok (.value (Ls τ [v])) w:=by
   simp only[execOp,bz,h4,b5x,jS hE hT qq (by rw[hs1];rfl),b5r,b5A]
  have hmk:Ls τ [v]=v:=by cases τ<;>first|rfl|cases Fg
  rw[hmk] at cI;have hut:u.τ=τ:=by
   unfold TV.part at hu;split at hu
   .rename_i iG;simp only[b4S] at iG;simp only[b4L] at hu;rw[<-hu];exact b5E iG.2
   .split at hu
    .split at hu
     .rename_i hd;simp only[b4L] at hu;rw[<-hu];exact b5E hd
     .cases hu
    .cases hu
  split at hq;case h_1 DD =>
   simp only[b4L,b4P] at hq;obtain⟨rfl,rfl⟩:=hq;refine Ey h cI ?_;obtain⟨Y4,yu⟩:=u;have hut:Y4=τ:=hut;subst hut;have hl:(Ty.aP Y4 yu).light=true:=uu DD yu;have hr:Rd w G.S (Ty.aP Y4 yu) [v]:=by
    cases Y4 with
    | int k=>exact p2.1
    | bool=>exact p2.1
    | str=>exact p2.1
    | slice t=>cases DD
    | mv t=>cases DD
    | ptr=>exact p2.1
    | st s=>cases DD
   cases Y4 with
   | mv t=>cases DD
   | st s=>cases DD
   | slice t=>cases DD
   | _=>exact hr
  case h_2 DD =>
   simp only[b4L,b4P] at hq;obtain⟨rfl,rfl⟩:=hq;refine Ey h cI ⟨h1,_,_,cap,l,h2,h3,p1,?_⟩;obtain⟨Y4,yu⟩:=u;have hut:Y4=τ:=hut;subst hut;cases Y4 with
   | slice t =>
    obtain⟨a',Tt,q,_⟩:=p2;simp only[b4X,b5d] at q;exact⟨_,_,_,q⟩
   | st s=>cases Fg
   | mv t =>
    cases hy:(show Option (List t.den) from yu) with
    | none =>
     have e:yu=(none:Option (List t.den)):=hy;subst e;obtain⟨⟨a',n,m,q⟩,_⟩:=p2;simp only[b4X,b5d] at q;exact⟨_,_,_,q⟩
    | some l =>
     have e:yu=(some l:Option (List t.den)):=hy;subst e;obtain⟨a',Tt,q,_⟩:=p2;simp only[b4X,b5d] at q;exact⟨_,_,_,q⟩
   | int k=>cases DD
   | bool=>cases DD
   | str=>cases DD
   | ptr=>cases DD
 case h_4 T ad x bz =>
  split at hq;case h_2=>cases hq
  case h_1 τ r hT =>
  split at hq;case h_2=>cases hq
  case h_1 id i off sz hx =>
  split at hq;case h_2=>cases hq
  case h_1 bf xs aY =>
  split at hq;case h_2=>cases hq
  case h_1 hb =>
  simp only[Bool.and_eq_true] at hb;obtain⟨yD,RZ⟩:=hb;have yD:=Nat.eq_of_beq_eq_true yD;subst yD;have RZ:off<bf.size:=by simpa [Nat.blt_eq] using RZ
  have hp:=bp h ad;rw[hx] at hp;have hxv:=bp h x;have eA:i<xs.length:=by
   obtain⟨_,b,m,cap,l,h2,h3,_⟩:=hp;obtain⟨h4,_⟩:=xC (h.aL.tr id bf xs aY) h2 h3;omega
  split at hq;case h_1 DD =>
   split at hq;case h_2=>cases hq
   case h_1 u j hu =>
   split at hq;case h_2=>cases hq
   case h_1 u0 y hu0 hy =>
   simp only[b4L,b4P] at hq;obtain⟨rfl,rfl⟩:=hq;have wC:τ.agg=false:=by cases τ<;>first|rfl|cases DD
   have hs1:τ.size=1:=Ty.jL wC;have qq:(a.eval x).cells.toList=[a.eval x]/\(a.eval x).oneCell'=true/\Ow w (τ.aP u) [a.eval x] []:=by
    have hc:C1 c G s.ah w (s.eval x) (a.eval x)/\(s.eval x).cell=true:=by
     have hcc:(s.eval x).cell=true:=by
      revert hu;cases cU:s.eval x with
      | aH v =>
       intro hu;simp only[ea] at hu;split at hu
       .rename_i hy';have e:=TV.aU hy';subst e;cases τ<;>first|rfl|cases wC
       .cases hu
      | nil=>intro hu;cases τ<;>first|(cases DD;done)|(cases hu;done)
      | av id=>intro hu;simp[ea] at hu
      | row id=>intro hu;simp[ea] at hu
      | _=>intro hu;cases hu
     exact⟨hxv.Z6 hcc,hcc⟩
    obtain⟨q1,q2⟩:=hc.1.leaf hc.2;refine⟨by rw[q2],q1,?_⟩;revert hu;have R0:=hc.1;revert R0;cases s.eval x with
    | aH v =>
     intro R0 hu;simp only[ea] at hu;split at hu
     .rename_i b3E hy';have e:=TV.aU hy';subst e;simp only[b4L,b4P] at hu;rw[<-hu.1];exact Ow.ew (S:=G.S) _ (uu b3E _) R0.2
     .cases hu
    | nil=>intro _ hu;cases τ<;>first|(cases DD;done)|(cases hu;done)
    | av id=>intro _ hu;simp[ea] at hu
    | row id=>intro _ hu;simp[ea] at hu
    | _=>intro _ hu;cases hu
   obtain⟨c1,c2,c3⟩:=qq;obtain⟨w',G',k1,k2⟩:=X8 hE h hT aY hp (y:=y) (x:=a.eval x) (by omega) (by rw[c1,hs1];rfl) (by rw[c1];simpa using c2) (λ b f l w' Ql hlen eG DB=>by
    have cK:∀ d∈xs.map bf.aP,d.size=bf.size:=by
     intro d hd;obtain⟨z,_,rfl⟩:=b4W.1 hd;exact Ty.cN bf z
    have cR:=h.aL.nd id bf xs aY;rw[Ql,b5G] at cR;obtain⟨Yt,WH⟩:=cR;have gh:∀ k∈f,w'.heap[k]?=w.heap[k]?:=λ k hk=>DB k λ e=>Yt (e ▸ hk);obtain⟨g0,g1,g2,rfl,_,m1,m2⟩:=bR.split (xs.map bf.aP) i (bf.aP (xs.getD i bf.zero)) eG cK (by simp[List.getD,eA]);obtain⟨v,p0,p1,p2,rfl,q1,q2,q3⟩:=TW hu0 wC m1;have hy2:=q3 w' ⟨τ,u⟩ y (a.eval x) [] hy (λ k hk=>gh k (by simp at hk ⊢;rcases hk with hk|hk<;>simp[hk])) (c3.aR _ (by simp));have hr:=m2 w' (bf.aP y) _ (p0++[]++p2) (λ k hk=>gh k (by simp at hk ⊢;rcases hk with hk|hk<;>simp[hk])) (by simp only[b5V,b5n,b6f];omega) hy2;rw[a2O l _ _ _ _ RZ hlen,<-b7U] at hr;refine⟨_,by rw[c1,hs1,X1 _ _ _ (by omega)];exact hr,?_,λ hk=>Yt ?_,λ k hk => .inl ?_⟩
    .refine BM (f1:=p0++p1++p2) WH (BM (f1:=p1) ?_ b6b (by simp)) (λ k hk => .inl (by simp at hk ⊢;rcases hk with hk|hk<;>simp[hk]));rw[b5s,b5s] at WH;exact WH.1.2.1
    .simp at hk ⊢;rcases hk with hk|hk|hk|hk<;>simp[hk]
    .simp at hk ⊢;rcases hk with hk|hk|hk|hk<;>simp[hk])
   exact JR bz k1 k2
  case h_2 DD =>
   split at hq;case h_2=>cases hq
   case h_1 y ids n8 ht =>
   split at hq;case h_2=>cases hq
   case h_1 y' cR hy' =>
   simp only[b4L,b4P] at hq;obtain⟨rfl,rfl⟩:=hq;have n8:=b4O n8;subst n8;have e:=TV.aU hy';have et:τ=bf:=congrArg TV.τ e;subst et;cases e;have cR:=cW cR;rw[b5G] at cR;obtain⟨b0Q,a9F⟩:=cR;obtain⟨fq,o1,o2,o3⟩:=mz h ht hxv a9F;have kj:=xH.cells o1;have hlen:=Ow.length _ kj;rw[Ty.cN] at hlen;have h1:=yz ids h;have ZD:=TA ids aY b0Q;obtain⟨_,b0,m0,b2W,l0,b3I,hi0,hp0⟩:=hp;obtain⟨w',G',k1,k2⟩:=X8 hE h1 hT ZD (i:=i) (off:=0) (p:=a.eval ad) ⟨by rw[ZD];rfl,b0,m0,b2W,l0,b3I,hi0,hp0⟩ (y:=y) (x:=a.eval x) (by omega) hlen
    (Rd.nt (S:=λ b=>b∈fq) (x:=y) (Ow.rd _ kj λ b hb=>hb)) (λ b f l w' Ql b4r eG DB=>by
    have cK:∀ d∈xs.map τ.aP,d.size=τ.size:=by
     intro d hd;obtain⟨z,_,rfl⟩:=b4W.1 hd;exact Ty.cN τ z
    have L1:=h.aL.nd id τ xs aY;rw[Ql,b5G] at L1;obtain⟨Yt,WH⟩:=L1;have gh:∀ k∈f,w'.heap[k]?=w.heap[k]?:=λ k hk=>DB k λ e=>Yt (e ▸ hk);have A2:∀ k∈fq,k∉b::f:=λ k hk kM=>by
     refine h.iZ (o3 k hk) (j:=[id]) ⟨id,by simp, .inl ⟨τ,xs,aY,by rw[Ql];exact kM⟩⟩ λ x1 hx1 y1 YG e=>?_;simp only[b5t] at YG;exact b0Q (by rw[<-YG,<-e];exact hx1)
    obtain⟨g0,g1,g2,rfl,_,m1,m2⟩:=bR.split (xs.map τ.aP) i (τ.aP (xs.getD i τ.zero)) eG cK (by simp[List.getD,eA]);have hr:=m2 w' (τ.aP y) (a.eval x).cells.toList fq (λ k hk=>gh k (by simp at hk ⊢;rcases hk with hk|hk<;>simp[hk])) hlen (kj.aR _ λ k hk=>DB k λ e=>A2 k hk (by simp[e]));rw[<-b7U] at hr;refine⟨g0++fq++g2,by rw[b6R];exact hr,?_,λ hk=>?_,λ k hk=>?_⟩
    .rw[b5s,b5s] at WH;obtain⟨⟨n1,n2,n3⟩,n4,n5⟩:=WH;refine ei (ei n1 o2 λ k hk kM=>A2 k kM (by simp[hk])) n4 λ k hk kM=>?_;rcases b4Q.1 hk with hk|hk
     .exact n5 k (b4Q.2 (.inl hk)) k kM rfl
     .exact A2 k hk (by simp[kM])
    .rcases b4Q.1 hk with hk|hk
     .rcases b4Q.1 hk with hk|hk
      .exact Yt (by simp[hk])
      .exact A2 b hk (by simp)
     .exact Yt (by simp[hk])
    .rcases b4Q.1 hk with hk|hk
     .rcases b4Q.1 hk with hk|hk
      .exact .inl (by simp[hk])
      .exact .inr (PM h (o3 k hk))
     .exact .inl (by simp[hk]))
   exact JR bz k1 k2
 case h_5 T l cc bz =>
  split at hq;case h_2=>cases hq
  case h_1 d τ b e hd hT =>
  split at hq;case h_2=>cases hq
  case h_1 n9 =>
  have b3s:d<50:=by
   simp only[Bool.and_eq_true] at n9;simpa [Nat.blt_eq] using n9.2
  split at hq;case h_2=>cases hq
  case h_1 n m hn hm =>
  simp only[b4L,b4P] at hq;obtain⟨rfl,rfl⟩:=hq;have hl:=bp h l;have hc:=bp h cc;rw[hn] at hl;rw[hm] at hc;obtain⟨hl,_⟩:=hl;obtain⟨hc,_⟩:=hc;simp only[b4X,b5d] at hl hc;obtain⟨v1,v2,v3,v4⟩:=TO eb;obtain⟨h1,_,i,z,h3,h4,h5,h6,h7⟩:=hE.slice hT;have hzo:=a9o (c:=c) (G:=G) (s:=s) (w:=w.alloc (.cells (madeCells z.cells (m.toNat * i.size)) e)) h7;have hzl:=Ow.length _ hzo;rw[Ty.cN,b5S] at hzl;have hr:=run_make (P:=c.P) w T e i z h1 h3 h6 .i64 .i64 n m v1 v2 (by rw[h5];omega) (by omega);have hI:=bw.alloc (RV h d) (.cells (madeCells z.cells (m.toNat * i.size)) e);have sw:(s.gone d).ah d=none:=by rw[Fw,b5u rfl]
  obtain⟨r1,r2⟩:=hI.XI sw;have eG:bR (w.alloc (.cells (madeCells z.cells (m.toNat * i.size)) e)) ((List.replicate n.toNat τ.zero).map τ.aP) (madeCells z.cells (m.toNat * i.size)).toList []:=by
   rw[b8Q];have hle:n.toNat * z.cells.size<=m.toNat * i.size:=by rw[h4,hzl];exact b6N _ (by omega)
   have:=bR.more _ ((madeCells z.cells (m.toNat * i.size)).toList.drop (n.toNat * z.cells.size)) (L7 hzo n.toNat);rwa [<-GK _ _ _ hle,b6d] at this
  have Ys:ie (w.alloc (.cells (madeCells z.cells (m.toNat * i.size)) e)) (.tuple (.slice (some ⟨w.heap.size,0,none⟩) n.toNat m.toNat::(madeCells z.cells (m.toNat * i.size)).toList).toArray) τ (List.replicate n.toNat τ.zero) [w.heap.size] :=
   ⟨_,_,some ⟨w.heap.size,0,none⟩,m.toNat,rfl,by simp,by simp;omega,by simp only[maxLen];omega,by simp;omega, .inr ⟨w.heap.size,[],e,rfl,rfl,by simpa using heap_alloc_new w (.cells (madeCells z.cells (m.toNat * i.size)) e),by simp[madeCells,h4],eG⟩⟩
  have hN:=hI.XD d τ (List.replicate n.toNat τ.zero) _ [w.heap.size] sw r1 r2 (by
   cases hr:c.R d with
   | none=>rfl
   | some v=>exact absurd (h.ic d v hr).1 (Nat.not_le.2 b3s)) Ys (by simp) (λ k hk=>by
   simp only[b5t] at hk;subst hk;have hg:=RV h d;refine⟨.inl h.aR.size,λ hs=>b7n _ (h.dB _ hs),by simp,λ i o cG qp=>?_,λ j kW ny hj nS=>?_⟩
   .exact b7n _ (hg.place i o _ cG qp).2.2
   .exact b7n _ (hg.aL.pl j kW ny _ hj nS).2.2.1)
  unfold Oper.wp;have cI:(execOp a.eval o).run c.P w = .ok (.value (.slice (some ⟨w.heap.size,0,none⟩) n.toNat m.toNat)) (w.alloc (.cells (madeCells z.cells (m.toNat * i.size)) e)):=by
   simp only[execOp,bz,hl,hc,b5x,hr,b5r,b5A]
  rw[cI];have key:=bw.put (d:=some d) (v := .av d) (x := .slice (some ⟨w.heap.size,0,none⟩) n.toNat m.toNat) hN ⟨by simp[cx],_,by simp;rfl,_,_,_,rfl⟩;have ct:aj.ah { aC:=(s.gone d).aC.set d (.av d),aJ:=(d, .av τ (List.replicate n.toNat τ.zero))::(s.gone d).aJ }=λ i=>if i=d then some (.av τ (List.replicate n.toNat τ.zero)) else (s.gone d).ah i:=by
   funext i;exact dF _ _ _ _
  have conv:∀ G',bw c G' (jV (s.gone d).aC.length (s.gone d).sl (some d) (.av d)) (s.gone d).aC.length (λ i=>if i=d then some (.av τ (List.replicate n.toNat τ.zero)) else (s.gone d).ah i) (a.put (some d) (.slice (some ⟨w.heap.size,0,none⟩) n.toNat m.toNat)) (w.alloc (.cells (madeCells z.cells (m.toNat * i.size)) e))->Inv c G' { aC:=(s.gone d).aC.set d (.av d),aJ:=(d, .av τ (List.replicate n.toNat τ.zero))::(s.gone d).aJ } (a.put o.dst (.slice (some ⟨w.heap.size,0,none⟩) n.toNat m.toNat)) (w.alloc (.cells (madeCells z.cells (m.toNat * i.size)) e)):=by
   intro G' hh;unfold Inv;rw[ct,hd,show aj.sl { aC:=(s.gone d).aC.set d (.av d),aJ:=(d, .av τ (List.replicate n.toNat τ.zero))::(s.gone d).aJ }=jV (s.gone d).aC.length (s.gone d).sl (some d) (.av d) from re _ d _ _,
    show ({ aC:=(s.gone d).aC.set d (.av d),aJ:=(d, .av τ (List.replicate n.toNat τ.zero))::(s.gone d).aJ }:aj).aC.length=(s.gone d).aC.length from by simp]
   exact hh
  exact⟨_,conv _ key⟩
 case h_6 cl bz =>
  split at hq;case h_1 fZ =>
   split at hq;case h_2=>cases hq
   case h_1 T id hTs Cj =>
   split at hq;case h_2=>cases hq
   case h_1 t r _ τ xs hT aY =>
   simp only[b4L,b4P] at hq;obtain⟨rfl,rfl⟩:=hq;have dr:=aT.kz (bp h) cl.args.toList;rw[Cj] at dr;match lh:cl.args.toList.map a.eval,dr with
   | [x],dr =>
    obtain⟨_,l,ec,ad,m,cap,Aq⟩:=dr.1;have hm:m=xs.length/\xs.length<=140737488355328:=by
     obtain⟨v0,l0,a1,V0,q1,q2,_,_,q5,_⟩:=h.aL.tr id τ xs aY;rw[ec,Aq] at q1;simp only[b6r] at q1;have q1:(Value.slice ad m cap::l)=v0::l0:=congrArg Array.toList q1;simp only[b4X] at q1;rw[q2] at q1;simp only[b6v] at q1;exact⟨q1.1.2.1,q5⟩
    obtain⟨rfl,hmx⟩:=hm;have P4:cl.argTypes = #[T]:=by rw[<-b5X (xs:=cl.argTypes),hTs]
    have IV:cl.args.map a.eval = #[x]:=by rw[<-b5X (xs:=cl.args.map a.eval),b6S,lh]
    have WA:(execOp a.eval o)=(do let d <-resolve a.eval cl o.type;invoke d.target d.args):=by simp[execOp,bz]
    have TC:(execOp a.eval o).run c.P w=((Builtin.len_ #[T] o.type #[x]).run c.P w).andThen λ v w => .ok (.value v) w:=by
     rw[WA];simp[resolve,fZ,invoke,builtin,P4,IV]
    obtain⟨k1,_,_⟩:=hE.slice hT;have hel:∃ q,c.P.elem T=q/\c.P.underlying T=some (.slice q):=⟨_,by simp[Program.elem,k1],k1⟩;obtain⟨q,hel,k1⟩:=hel;refine Ey h (x := .int .i64 xs.length) ?_ (Q0 ⟨by omega,by omega⟩);rw[TC,Aq,run_len_slice w T o.type ad xs.length cap (by rw[hel];exact k1)];rfl
  case h_2 f fZ =>
   split at hq;case h_2=>cases hq
   case h_1 d hd =>
   split at hq;case h_2=>cases hq
   split at hq;case h_1 m hm =>
    have cI:∀ x y:Value,cl.args.toList.map a.eval=[x,y]->iw c.P f->(execOp a.eval o).run c.P w = .ok (.enter f [x,y].toArray) w:=λ x y hxy l7=>by
     rw[<-hxy];exact fT bz fZ rfl l7
    unfold a5n at hq;split at hq;case h_1 id k dr =>
     split at hq;case h_2=>cases hq
     case h_1 τ xs aY =>
     split at hq;case h_2=>cases hq
     case h_1 x hx =>
     split at hq;case h_2=>cases hq
     case h_1 cS DE =>
     simp only[b4L,b4P] at hq;obtain⟨rfl,rfl⟩:=hq;obtain⟨v,z,e1,e2,e3⟩:=Ve h dr;obtain⟨LC,g⟩:=m;have ex:=TV.aU hx;have et:Ty.slice τ=LC:=congrArg TV.τ ex;subst et;cases ex;have ex':=TV.aU DE;have hxe:(g xs k).2.1=cS:=by cases ex';rfl
     have:=U1 hE h hm aY e2 e3 eb hd (cI v z e1) (Q:=Q);rw[<-hxe];exact this
    case h_2 id i off sz k dr =>
     split at hq;case h_2=>cases hq
     case h_1 τ xs aY =>
     split at hq;case h_2=>cases hq
     case h_1 u hu =>
     split at hq;case h_2=>cases hq
     case h_1 x hx hb =>
     split at hq;case h_2=>cases hq
     case h_1 y hy =>
     simp only[Option.some.injEq,Prod.mk.injEq] at hq;obtain⟨rfl,rfl⟩:=hq;simp only[Bool.and_eq_true,Bool.not_eq_true'] at hb;obtain⟨yD,Fg,RZ⟩:=hb;have yD:=Nat.eq_of_beq_eq_true yD;subst yD;obtain⟨v,z,e1,e2,e3⟩:=Ve h dr;exact Xm hE h hm aY hu hx Fg (by simpa [Nat.blt_eq] using RZ) hy e2 e3 eb hd (cI v z e1)
    case h_3 cs k dr =>
     split at hq;case h_2=>cases hq
     case h_1 x ids ht =>
     split at hq;case h_2=>cases hq
     case h_1 hb =>
     simp only[b4L,b4P] at hq;obtain⟨rfl,rfl⟩:=hq;simp only[b4S,b5F] at hb;obtain⟨v,z,e1,e2,e3⟩:=Ve h dr;exact Xl hE h hm ht (cW hb.1) hb.2 e2 e3 eb hd (cI v z e1)
    case h_4=>cases hq
   case h_2 hm =>
    split at hq;case h_2=>cases hq
    case h_1 Z9 has =>
    split at hq;case h_2=>cases hq
    case h_1 pre res hc =>
    split at hq;case h_2=>cases hq
    case h_1 hb =>
    simp only[Option.some.injEq,Prod.mk.injEq] at hq;obtain⟨rfl,rfl⟩:=hq;simp only[Bool.and_eq_true,List.all_eq_true] at hb;exact XN hE h has (aT.kz (bp h) cl.args.toList) hc eb hd (λ p hp=>by simpa using hb.1 p hp) (cW hb.2) (by omega) (λ l7=>fT bz fZ rfl l7)
  case h_3=>cases hq
 case h_7=>cases hq
end
section
variable {w:World}
theorem bR.join{n:Nat}:∀ (ds:List D) {l:List Value} {fp:List Nat},bR w ds l fp->(∀ d∈ds,d.size=n) ->
  ds.length * n<=l.length/\∀ (es:List D) (m:List Value) (f2:List Nat),bR w es m f2->bR w (ds++es) (l.take (ds.length * n)++m) (fp++f2)
 | [],l,fp,h,_=>by
  have h:fp=[]:=h;subst h;exact⟨by simp,λ es m f2 k=>by simpa using k⟩
 | d::ds,l,fp,h,hn=>by
  obtain⟨c,r,f1,f2,rfl,rfl,h3,h4⟩:=h;have hc:c.length=n:=by rw[Ow.length d h3];exact hn d (by simp)
  obtain⟨k1,k2⟩:=bR.join ds h4 λ d hd=>hn d (by simp[hd]);have e:(d::ds).length * n=c.length+ds.length * n:=by rw[b4Y,b6i,hc];omega
  refine⟨by rw[e,b5f];omega,λ es m f3 k=>?_⟩;refine⟨c,r.take (ds.length * n)++m,f1,f2++f3,?_,by simp,h3,k2 es m f3 k⟩;rw[e,CE,b5O]
theorem bR.rdL{n:Nat}:∀ (ds:List D) {l:List Value} {fp:List Nat},bR w ds l fp->(∀ d∈ds,d.size=n)->dU w (λ _=>True) ds (l.take (ds.length * n))
 | [],l,fp,h,_=>by simp[dU]
 | d::ds,l,fp,h,hn=>by
  obtain⟨c,r,f1,f2,rfl,rfl,h3,h4⟩:=h;have hc:c.length=n:=by rw[Ow.length d h3];exact hn d (by simp)
  have e:(d::ds).length * n=c.length+ds.length * n:=by rw[b4Y,b6i,hc];omega
  exact⟨c,r.take (ds.length * n),by rw[e,CE],Ow.rd d h3 λ _ _=>trivial,bR.rdL ds h4 λ d hd=>hn d (by simp[hd])⟩
theorem N2{τ:Ty}(xs:List τ.den):∀ d∈xs.map τ.aP,d.size=τ.size:=by
 intro d hd;obtain⟨z,_,rfl⟩:=b4W.1 hd;exact Ty.cN τ z
theorem Tu{g k:Nat}{l:List Value}{t:TypeId}(h:w.heap[g]?=some (.cells l.toArray t (0,0))):∀ j v,(l.take k)[j]?=some v->w.cell? ((⟨g,0,none⟩:Addr).add j)=some v:=by
 intro j v hj;rw[Addr.add_lit];have:=Ip (w:=w) (b:=g) (p:=[]) (c:=l.take k) (r:=l.drop k) (t:=t) (by simpa using h) j v hj;simpa using this
theorem Q5{P:Program}(t ty e:TypeId)(i:TypeInfo)(ht:P.underlying t=some (.slice e))(hi:P.info? e=some i)
  (g XY a8P:Nat) (cur:Array Value) (t2:TypeId) (hg:w.heap[g]?=some (.cells cur t2 (0,0)))
  (a:Addr) (m c:Nat) (news:List Value) (hl:news.length=m * i.size) (WG:∀ j u,news[j]?=some u->w.cell? (a.add j)=some u) (h1:∀ u∈news,u.oneCell'=true)
  (Fm:XY+m<=a8P) (Dz:XY * i.size+news.length<=cur.size) :
  (Builtin.append_ #[t,t] ty #[.slice (some ⟨g,0,none⟩) XY a8P, .slice (some a) m c]).run P w =
   .ok (.slice (some ⟨g,0,none⟩) (XY+m) a8P) (w.setRow g (cur.toList.take (XY * i.size)++news++cur.toList.drop (XY * i.size+news.length)).toArray):=by
 have hf:=run_firstCells_some (P:=P) w i.size m a m c news hl WG;have cw:=run_storeCells_at P g (XY * i.size) t2 news 0 cur w hg (by simpa using Dz) h1;simp only[Nat.add_zero] at cw;simp[Builtin.append_,run_underlying ht,sizeOf,typeInfo,hi,Builtin.lenOf,Fm,hf,Addr.add_lit,cw]
theorem Zy{τ:Ty}{zs:List τ.den}{q:List Value}{fp:List Nat}{z:Array Value}{cap:Nat}{e:TypeId}(hq:bR w (zs.map τ.aP) q fp)(hql:q.length=zs.length * τ.size)(R8:z.size=τ.size)
  (hc:zs.length<=cap) (hm:cap<=maxLen) (h47:zs.length<=140737488355328) (bK:∀ b∈fp,b<w.heap.size) :
  ie (w.drew.alloc (.cells (q.toArray++Builtin.zeroCells z (cap - zs.length)) e)) (.tuple (.slice (some ⟨w.heap.size,0,none⟩) zs.length cap::(q.toArray++Builtin.zeroCells z (cap - zs.length)).toList).toArray) τ zs (w.heap.size::fp):=by
 refine⟨_,_,some ⟨w.heap.size,0,none⟩,cap,rfl,rfl,hc,hm,h47, .inr ⟨w.heap.size,fp,e,rfl,rfl,?_,?_,?_⟩⟩
 .rw[b5X];exact b7Z w.drew _
 .simp only[b8N,b5f,hql,b5S,size_zeroCells,R8];rw[<-b6i];congr 1;omega
 .rw[b8N];have hk:∀ b∈fp,(w.drew.alloc (.cells (q.toArray++Builtin.zeroCells z (cap - zs.length)) e)).heap[b]?=w.heap[b]?:=λ b hb=>heap_alloc_old w.drew _ b (bK b hb);have:=bR.aR _ hq hk;have more:∀ (ds:List D) {l:List Value} {f:List Nat} (m:List Value),bR (w.drew.alloc (.cells (q.toArray++Builtin.zeroCells z (cap - zs.length)) e)) ds l f->bR (w.drew.alloc (.cells (q.toArray++Builtin.zeroCells z (cap - zs.length)) e)) ds (l++m) f:=by
   intro ds;induction ds with
   | nil=>intro l f m h;exact h
   | cons d ds ih =>
    intro l f m h;obtain⟨cc,r,f1,f2,rfl,hf,h3,h4⟩:=h;exact⟨cc,r++m,f1,f2,by simp,hf,h3,ih m h4⟩
  exact more _ _ this
end
section
variable {c:Ctx} {G:Gh} {sl:Nat->AV} {n:Nat} {lk:Nat->Option aB} {a:Act} {w w':World}
theorem a0d(hE:bF c.P c.E){T:TypeId}{τ:Ty}{b e:Nat}(hT:ah c.E.ty T=some (.slice τ,b,e)){xs ys:List τ.den}{x y:Value}{fx fy:List Nat}
  (hx:Ow w (.slice τ.size (xs.map τ.aP)) [x] fx) (hy:Ow w (.slice τ.size (ys.map τ.aP)) [y] fy) (hlx:∀ k∈fx,k<w.heap.size) (hly:∀ k∈fy,k<w.heap.size) (WI:fx.Nodup) (hny:fy.Nodup) (hd:∀ k∈fx,k∉fy)
  (Fm:bc (xs.length+ys.length) b) (ty:TypeId) :
  ∃ v' w' fp l,(Builtin.append_ #[T,T] ty #[x,y]).run c.P w = .ok v' w'/\ie w' (.tuple (v'::l).toArray) τ (xs++ys) fp/\(∃ a n m,v' = .slice a n m)/\fp.Nodup/\(∀ k∈fp,k∈fx\/k∈fy\/(w.heap.size<=k/\k<w'.heap.size))/\bD (λ k=>k∈fx) w w':=by
 obtain⟨k1,⟨b',e',k2⟩,i,zv,k3,k4,k5,k6,k7⟩:=hE.slice hT;have R8:zv.cells.size=τ.size:=by
  have:=Rd.length _ (Rs (w:=w) (S:=λ _=>True) k7);rwa [Ty.cN,b5S] at this
 have Qi:=τ.size_pos;have Uo:(xs.length+ys.length) * b<=140737488355328/\xs.length+ys.length<=140737488355328:=by
  unfold bc at Fm;rw[Nat.mul_add,Nat.mul_one] at Fm;omega
 have Qh:xs.length+ys.length<=maxLen:=by simp only[maxLen];omega
 obtain⟨lx,hxT,_⟩:=ie.XK hx;have hx0:=hx;obtain⟨ax,LJ,x1,x2,x3,x4,x5⟩:=hx;obtain⟨ay,a1v,y1,y2,y3,y4,y5⟩:=hy;simp only[b4X,b5d,b5g] at x1 x2 x4 y1 y2 y4;subst x1 y1;have same:(Builtin.append_ #[T,T] ty #[.slice ax xs.length LJ, .slice ay ys.length a1v]).run c.P w = .ok (.slice ax xs.length LJ) w->ys=[]->∃ v' w' fp l,(Builtin.append_ #[T,T] ty #[.slice ax xs.length LJ, .slice ay ys.length a1v]).run c.P w = .ok v' w'/\ie w' (.tuple (v'::l).toArray) τ (xs++ys) fp/\(∃ a n m,v' = .slice a n m)/\fp.Nodup/\(∀ k∈fp,k∈fx\/k∈fy\/(w.heap.size<=k/\k<w'.heap.size))/\bD (λ k=>k∈fx) w w':=by
  intro hr he;subst he;exact⟨_,w,fx,lx,hr,by simpa using hxT,⟨_,_,_,rfl⟩,WI,λ k hk => .inl hk,bD.refl _ _⟩
 rcases y5 with ⟨q1,⟨q2,q3⟩,q4⟩|⟨gy,f2,l2,t2,q1,q2,q3,q4,q5⟩
 .have R6:ys=[]:=by simpa using q1
  subst R6;refine same ?_ rfl;subst q2;simp[Builtin.append_,b5N k1,sizeOf,typeInfo,k3,Builtin.lenOf,Builtin.firstCells,x2,storeCells];cases ax<;>rfl
 .subst q1 q2;have hsy:=N2 ys;obtain⟨j1,_⟩:=bR.join _ q5 hsy;rw[b5g] at j1;have Fl:(l2.take (ys.length * τ.size)).length=ys.length * τ.size:=by rw[b5n];omega
  have IS:∀ u∈l2.take (ys.length * τ.size),u.oneCell'=true:=by
   have:=bR.rdL _ q5 hsy;rw[b5g] at this;exact dU.nt this
  have WG:=Tu (w:=w) (k:=ys.length * τ.size) q3;have a7T:bR w (ys.map τ.aP) (l2.take (ys.length * τ.size)) f2:=by
   have:=(bR.join _ q5 hsy).2 [] [] [] rfl;simpa using this
  rcases x5 with ⟨p1,⟨p2,p3⟩,p4⟩|⟨gx,f1,l1,t1,p1,p2,p3,p4,p5⟩
  .have lh:xs=[]:=by simpa using p1
   subst lh p2 p3 p4;by_cases hm:ys=[]
   .refine same ?_ hm;subst hm;simp[Builtin.append_,b5N k1,sizeOf,typeInfo,k3,Builtin.lenOf,Builtin.firstCells,loadCells,loadCellsFrom]
   .have hm0:0<ys.length:=List.length_pos_iff.2 hm;have hr:=run_append_nil (P:=c.P) w T ty e i zv k1 k3 k6 ⟨gy,0,none⟩ ys.length a1v (l2.take (ys.length * τ.size)) (by rw[Fl,k4]) WG hm0 (by omega) (by rw[k5];have:=Uo.1;simp only[List.length_nil,Nat.zero_add] at this;omega);have hg:=Zy (w:=w) (e:=e) (zs:=ys) (cap:=grownCap w ys.length 0 e) a7T Fl R8 (grownCap_ge w ys.length 0 e) (grownCap_le_maxLen w ys.length 0 e (by simpa using Qh)) (by omega) (λ k hk=>hly k (by simp[hk]));refine⟨.slice (some ⟨w.heap.size,0,none⟩) ys.length (grownCap w ys.length 0 e),w.drew.alloc (.cells ((l2.take (ys.length * τ.size)).toArray++Builtin.zeroCells zv.cells (grownCap w ys.length 0 e - ys.length)) e),w.heap.size::f2,_,hr,hg,⟨_,_,_,rfl⟩,?_,?_,⟨rfl,rfl,rfl,by simp,λ k hk _=>heap_alloc_old w.drew _ k hk⟩⟩
    .rw[b5G] at hny ⊢;exact⟨λ hh=>b7n _ (hly _ (by simp[hh])),hny.2⟩
    .intro k hk;rcases b5h.1 hk with rfl|hk
     .exact .inr (.inr ⟨b5w _,by simp⟩)
     .exact .inr (.inl (by simp[hk]))
  .subst p1 p2;have hsx:=N2 xs;obtain⟨i1,i2⟩:=bR.join _ p5 hsx;rw[b5g] at i1 i2;have vI:(l1.take (xs.length * τ.size)).length=xs.length * τ.size:=by rw[b5n];omega
   have WH:(f1++f2).Nodup/\gx∉f1++f2:=by
    rw[b5G] at WI hny;refine⟨b5s.2 ⟨WI.2,hny.2,λ k hk k' kM e=>?_⟩,λ hh=>?_⟩
    .subst e;exact hd k (by simp[hk]) (by simp[kM])
    .rcases b4Q.1 hh with hh|hh
     .exact WI.1 hh
     .exact hd gx (by simp) (by simp[hh])
   have eG:=i2 (ys.map τ.aP) _ f2 a7T;rw[<-b6F] at eG;by_cases Dz:xs.length+ys.length<=LJ
   .have kj:xs.length * i.size+(l2.take (ys.length * τ.size)).length<=l1.toArray.size:=by
     rw[Fl,k4,<-b6i,List.size_toArray,p4];exact b6N _ Dz
    have hr:=Q5 (P:=c.P) (w:=w) T ty e i k1 k3 gx xs.length LJ l1.toArray t1 p3 ⟨gy,0,none⟩ ys.length a1v (l2.take (ys.length * τ.size)) (by rw[Fl,k4]) WG IS Dz kj;have gh:∀ k,k≠gx->(w.setRow gx (l1.toArray.toList.take (xs.length * i.size)++l2.take (ys.length * τ.size)++l1.toArray.toList.drop (xs.length * i.size+(l2.take (ys.length * τ.size)).length)).toArray).heap[k]?=w.heap[k]?:=λ k hk=>mU w p3 k hk;refine⟨_,_,gx::(f1++f2),(l1.take (xs.length * τ.size)++l2.take (ys.length * τ.size)++l1.drop (xs.length * τ.size+ys.length * τ.size)),hr,?_,⟨_,_,_,rfl⟩,b5G.2 ⟨WH.2,WH.1⟩,?_,⟨rfl,rfl,rfl,by simp[World.setRow],λ k hk eR=>gh k λ e=>eR (by simp[e])⟩⟩
    .refine⟨_,_,some ⟨gx,0,none⟩,LJ,rfl,by simp,by simpa using Dz,x3,by simp;omega, .inr ⟨gx,f1++f2,t1,rfl,rfl,?_,?_,?_⟩⟩
     .have:=b8S w gx l1.toArray (l1.toArray.toList.take (xs.length * i.size)++l2.take (ys.length * τ.size)++l1.toArray.toList.drop (xs.length * i.size+(l2.take (ys.length * τ.size)).length)).toArray t1 (0,0) p3;rw[this,Fl,k4]
     .simp only[b5f,vI,Fl,b6f,p4];have:xs.length * τ.size+ys.length * τ.size<=LJ * τ.size:=by rw[<-b6i];exact b6N _ Dz
      omega
     .have hk:∀ k∈f1++f2,(w.setRow gx (l1.toArray.toList.take (xs.length * i.size)++l2.take (ys.length * τ.size)++l1.toArray.toList.drop (xs.length * i.size+(l2.take (ys.length * τ.size)).length)).toArray).heap[k]?=w.heap[k]?:=λ k hk=>gh k λ e=>WH.2 (e ▸ hk);have h2:=bR.aR _ eG hk;have more:∀ (w2:World) (ds:List D) {l:List Value} {f:List Nat} (m:List Value),bR w2 ds l f->bR w2 ds (l++m) f:=by
       intro w2 ds;induction ds with
       | nil=>intro l f m h;exact h
       | cons d ds ih =>
        intro l f m h;obtain⟨cc,r,f1,f2,rfl,hf,h3,h4⟩:=h;exact⟨cc,r++m,f1,f2,by simp,hf,h3,ih m h4⟩
      exact more _ _ _ h2
    .intro k hk;rcases b5h.1 hk with rfl|hk
     .exact .inl (by simp)
     .rcases b4Q.1 hk with hk|hk
      .exact .inl (by simp[hk])
      .exact .inr (.inl (by simp[hk]))
   .have hr:=run_append_grow (P:=c.P) w T ty e i zv k1 k3 k6 ⟨gx,0,none⟩ xs.length LJ (l1.take (xs.length * τ.size)) (by rw[vI,k4]) (Tu p3) ⟨gy,0,none⟩ ys.length a1v (l2.take (ys.length * τ.size)) (by rw[Fl,k4]) WG (by omega) (by omega) (by rw[k5];exact growslice_fits (by omega) Uo.1);have hql:(l1.take (xs.length * τ.size)++l2.take (ys.length * τ.size)).length=(xs++ys).length * τ.size:=by rw[b5f,vI,Fl,b5f,b6i]
    have hle:(xs++ys).length=xs.length+ys.length:=b5f;have bK:∀ k∈f1++f2,k<w.heap.size:=λ k hk=>by
     rcases b4Q.1 hk with hk|hk
     .exact hlx k (by simp[hk])
     .exact hly k (by simp[hk])
    have hg:=Zy (w:=w) (e:=e) (zs:=xs++ys) (cap:=grownCap w (xs.length+ys.length) LJ e) eG hql R8 (by rw[hle];exact grownCap_ge w _ _ e) (grownCap_le_maxLen w _ _ e Qh) (by omega) bK;rw[hle] at hg;refine⟨_,w.drew.alloc (.cells ((l1.take (xs.length * τ.size)).toArray++(l2.take (ys.length * τ.size)).toArray++Builtin.zeroCells zv.cells (grownCap w (xs.length+ys.length) LJ e - (xs.length+ys.length))) e),w.heap.size::(f1++f2),_,hr,by simpa [hle] using hg,⟨_,_,_,rfl⟩,?_,?_,⟨rfl,rfl,rfl,by simp,λ k hk _=>heap_alloc_old w.drew _ k hk⟩⟩
    .exact b5G.2 ⟨λ hh=>b7n _ (bK _ hh),WH.1⟩
    .intro k hk;rcases b5h.1 hk with rfl|hk
     .exact .inr (.inr ⟨b5w _,by simp⟩)
     .rcases b4Q.1 hk with hk|hk
      .exact .inl (by simp[hk])
      .exact .inr (.inl (by simp[hk]))
end
section
variable {c:Ctx} {G:Gh} {s:aj} {a:Act} {w w':World}
theorem Inv.built(h:Inv c G s a w){ids:List Nat}{d:Nat}{τ:Ty}{zs:List τ.den}{fp:List Nat}{v':Value}{l:List Value}(hk:bD (λ b=>wZ G s.ah ids b) w w')(hT:ie w' (.tuple (v'::l).toArray) τ zs fp)
  (hv:∃ a n m,v' = .slice a n m) (cR:fp.Nodup) (jM:∀ b∈fp,wZ G s.ah ids b\/(w.heap.size<=b/\b<w'.heap.size)) (sw:(ids.foldl aj.gone s).ah (bV d)=none) :
  ∃ G',Inv c G' ((ids.foldl aj.gone s).tn d τ zs) (a.put (some d) v') w':=by
 have h1:Inv c G (ids.foldl aj.gone s) a w:=yz ids h;have hF:∀ b,wZ G s.ah ids b->wY c G (ids.foldl aj.gone s).ah w b:=λ b hb=>PM h hb;generalize hs1:ids.foldl aj.gone s=s1 at *
 have jA:∀ b,b<w.heap.size->¬ wZ G s.ah ids b->w'.heap[b]?=w.heap[b]?:=λ b hb hn=>hk.block b hb hn;have h2:bw c G s1.sl s1.aC.length s1.ah a w':=by
  refine bw.world (S':=G.S) h1 ⟨hk.os,hk.tape,hk.output,hk.size,λ b hb hn=>jA b hb λ hi=>hn (hF b hi).1⟩ (λ _ h=>h) (λ _ _=>b6P) h1.sX (λ b hb=>b5i (h1.dB b hb) hk.size) ?_ ?_ ?_
  .intro b hb;rcases hb with hb|hb
   .exact jA b (h1.dB b hb) λ hi=>(hF b hi).2.1 hb
   .exact jA b (b5i hb.1 h1.aR.size) λ hi=>(hF b hi).1.elim (λ q=>by omega) hb.2.1
  .intro id o b ho hb;exact jA b (h1.place id o b ho hb).2.2 λ hi=>(hF b hi).2.2.2.1 id o ho hb
  .intro id bf cS b ht hb;exact jA b (h1.aL.pl id bf cS b ht hb).2.2.1 λ hi=>(hF b hi).2.2.2.2 id bf cS ht hb
 obtain⟨r1,r2⟩:=h2.XI sw;have hR:c.R (bV d)=none:=by
  cases hr:c.R (bV d) with
  | none=>rfl
  | some v=>have:=(h.ic _ v hr).2;unfold bV at this;omega
 have h3:=h2.XD (bV d) τ zs _ fp sw r1 r2 hR hT cR (λ b hb=>by
  rcases jM b hb with hi|⟨q1,q2⟩
  .obtain⟨f1,f2,f3,f4,f5⟩:=hF b hi;exact⟨f1,f2,b5i f3 hk.size,f4,f5⟩
  .refine⟨.inl (b6x h1.aR.size q1),λ hs=>?_,q2,λ i o cG qp=>?_,λ j kW ny hj nS=>?_⟩
   .have:=h1.dB b hs;omega
   .have:=(h1.place i o b cG qp).2.2;omega
   .have:=(h1.aL.pl j kW ny b hj nS).2.2.1;omega)
 have key:=bw.put (d:=some d) (v := .av (bV d)) (x:=v') h3 ⟨by simp[cx],l,by simp,hv⟩;have ct:(s1.tn d τ zs).ah=λ i=>if i=bV d then some (.av τ zs) else s1.ah i:=by
  funext i;exact dF _ _ _ _
 have conv:∀ G',bw c G' (jV s1.aC.length s1.sl (some d) (.av (bV d))) s1.aC.length (λ i=>if i=bV d then some (.av τ zs) else s1.ah i) (a.put (some d) v') w'->Inv c G' (s1.tn d τ zs) (a.put (some d) v') w':=by
  intro G' hh;unfold Inv;rw[ct,show (s1.tn d τ zs).sl=jV s1.aC.length s1.sl (some d) (.av (bV d)) from re _ d _ _,show (s1.tn d τ zs).aC.length=s1.aC.length from by simp[aj.tn]];exact hh
 exact⟨_,conv _ key⟩
theorem Inv.over{s1:aj}{X:Nat->Prop}(h1:Inv c G s1 a w)(hF:∀ b,X b->wY c G s1.ah w b)(hk:bD X w w'):bw c G s1.sl s1.aC.length s1.ah a w':=by
 have jA:∀ b,b<w.heap.size->¬ X b->w'.heap[b]?=w.heap[b]?:=λ b hb hn=>hk.block b hb hn;refine bw.world (S':=G.S) h1 ⟨hk.os,hk.tape,hk.output,hk.size,λ b hb hn=>jA b hb λ hi=>hn (hF b hi).1⟩ (λ _ h=>h) (λ _ _=>b6P) h1.sX (λ b hb=>b5i (h1.dB b hb) hk.size) ?_ ?_ ?_
 .intro b hb;rcases hb with hb|hb
  .exact jA b (h1.dB b hb) λ hi=>(hF b hi).2.1 hb
  .exact jA b (b5i hb.1 h1.aR.size) λ hi=>(hF b hi).1.elim (λ q=>by omega) hb.2.1
 .intro id o b ho hb;exact jA b (h1.place id o b ho hb).2.2 λ hi=>(hF b hi).2.2.2.1 id o ho hb
 .intro id bf cS b ht hb;exact jA b (h1.aL.pl id bf cS b ht hb).2.2.1 λ hi=>(hF b hi).2.2.2.2 id bf cS ht hb
theorem wY.a9V{lk:Nat->Option aB}{b:Nat}(h:wY c G lk w b):¬ SX G lk b:=by
 rintro (hb|⟨id,e,τ,ys,aY,hb⟩|⟨id,τ,ys,aY,hb⟩)
 .exact h.2.1 hb
 .exact h.2.2.2.1 id _ aY hb
 .exact h.2.2.2.2 id τ ys aY hb
theorem z7(h:Inv c G s a w):∀ {fl:List Bool} {Ts:List TypeId} {vs:List AV} {xs:List Value} {own:List (Option TV)} {ids:List Nat},gS c.E s.ah fl Ts vs=some (own,ids)->ids.Nodup->aT (VR c G s.ah w) vs xs ->
  ∃ Cc:List (List Nat),aT (λ (o:Option TV) (q:Value×List Nat)=>match o with
   | some v=>xH w v q.1 q.2
   | none=>q.2=[]) own (xs.zip Cc)/\Cc.length=xs.length/\Cc.flatten.Nodup/\∀ b∈Cc.flatten,wZ G s.ah ids b
 | [],[],[],[],own,ids,ht,_,_=>by
  simp only[gS,b4L,b4P] at ht;obtain⟨rfl,rfl⟩:=ht;exact⟨[],ae,rfl,by simp,by simp⟩
 | true::fl,T::Ts,v::vs,x::xs,own,ids,ht,hn,hv=>by
  simp only[gS] at ht;split at ht;case h_2=>cases ht
  case h_1 τ q hT =>
  split at ht;case h_2=>cases ht
  case h_1 y i hy =>
  split at ht;case h_2=>cases ht
  case h_1 r j hr =>
  simp only[b4L,b4P] at ht;obtain⟨rfl,rfl⟩:=ht;rw[b5s] at hn;obtain⟨n1,n2,n3⟩:=hn;obtain⟨f1,o1,o2,o3⟩:=mz h hy hv.1 n1;obtain⟨Cc,p1,p2,p3,p4⟩:=z7 h hr n2 hv.2;refine⟨f1::Cc,⟨o1,p1⟩,by simp[p2],?_,?_⟩
  .rw[List.flatten_cons];exact ei o2 p3 λ b hb cA=>h.iZ (o3 b hb) (p4 b cA) (λ x hx y hy=>n3 x hx y hy)
  .intro b hb;rw[List.flatten_cons] at hb;rcases b4Q.1 hb with hb|hb
   .exact (o3 b hb).mono λ i hi=>by simp[hi]
   .exact (p4 b hb).mono λ i hi=>by simp[hi]
 | false::fl,T::Ts,v::vs,x::xs,own,ids,ht,hn,hv=>by
  simp only[gS] at ht;split at ht;case h_2=>cases ht
  case h_1 r j hr =>
  simp only[Option.some.injEq,Prod.mk.injEq] at ht;obtain⟨rfl,rfl⟩:=ht;obtain⟨Cc,p1,p2,p3,p4⟩:=z7 h hr hn hv.2;exact⟨[]::Cc,⟨rfl,p1⟩,by simp[p2],by simpa using p3,by simpa using p4⟩
 | [],_::_,_,_,_,_,ht,_,_=>by simp[gS] at ht
 | [],[],_::_,_,_,_,ht,_,_=>by simp[gS] at ht
 | [],[],[],_::_,_,_,_,_,hv=>hv.elim
 | true::_,[],_,_,_,_,ht,_,_=>by simp[gS] at ht
 | false::_,[],_,_,_,_,ht,_,_=>by simp[gS] at ht
 | true::_,_::_,[],_,_,_,ht,_,_=>by simp[gS] at ht
 | false::_,_::_,[],_,_,_,ht,_,_=>by simp[gS] at ht
 | _,_,_::_,[],_,_,_,_,hv=>hv.elim
theorem vQ(hE:bF c.P c.E)(h:Inv c G s a w):∀ {own:List (Option TV)} {Ts:List TypeId} {vs:List AV} {xs:List Value} {Cc:List (List Nat)} {Z9:List Arg},fD c.E s.ah own Ts vs=some Z9 ->
  aT (λ (o:Option TV) (q:Value×List Nat)=>match o with
   | some v=>xH w v q.1 q.2
   | none=>q.2=[]) own (xs.zip Cc)->Cc.length=xs.length->aT (VR c G s.ah w) vs xs->uy c.P w (SX G s.ah) Z9 xs Cc.flatten/\∀ a∈Z9,a.Oz=true
 | [],[],[],[],Cc,Z9,hm,hO,hl,hv=>by
  simp only[fD,Option.some.injEq] at hm;subst hm;have:Cc=[]:=List.eq_nil_of_length_eq_zero (by simpa using hl);subst this;exact⟨rfl,by simp⟩
 | some y::own,T::Ts,v::vs,x::xs,f::Cc,Z9,hm,hO,hl,hv=>by
  simp only[fD] at hm;split at hm;case h_2=>cases hm
  case h_1 r hr =>
  simp only[Option.some.injEq] at hm;subst hm;obtain⟨q1,q2⟩:=vQ hE h hr hO.2 (by simpa using hl) hv.2;refine⟨⟨f,Cc.flatten,by simp,hO.1,q1⟩,λ a ha=>?_⟩;rcases List.mem_cons.1 ha with rfl|ha
  .rfl
  .exact q2 a ha
 | none::own,T::Ts,v::vs,x::xs,f::Cc,Z9,hm,hO,hl,hv=>by
  simp only[fD] at hm;split at hm;case h_2=>cases hm
  case h_1 y hy =>
  split at hm;case h_2=>cases hm
  case h_1 r TI hr =>
  simp only[Option.some.injEq] at hm;subst hm;obtain⟨q1,q2⟩:=vQ hE h hr hO.2 (by simpa using hl) hv.2;have hf:f=[]:=hO.1;subst hf;have h1:=iy hE h (λ _ _ h=>h) (λ _ h => .inl h) (λ τ v x y h1 h2=>AA h.aL h.aJ (λ _ _ h=>h) h1 h2) (Ts:=[T]) (vs:=[v]) (Z9:=[y]) (xs:=[x]) (by simp only[mC,hy]) ⟨hv.1,ae⟩;refine⟨⟨[],Cc.flatten,by simp,?_,q1⟩,λ a ha=>?_⟩
  .have h1:=h1.1;cases y with
   | own v=>exact h1.elim
   | box k=>exact h1.elim
   | _=>exact⟨rfl,h1⟩
  .rcases b5h.1 ha with rfl|ha
   .exact TI
   .exact q2 a ha
 | [],[],[],_::_,_,_,_,_,_,hv=>hv.elim
 | _,_,_::_,[],_,_,_,_,_,hv=>hv.elim
 | [],_::_,_,_,_,_,hm,_,_,_=>by simp[fD] at hm
 | [],[],_::_,_,_,_,hm,_,_,_=>by simp[fD] at hm
 | some _::_,[],_,_,_,_,hm,_,_,_=>by simp[fD] at hm
 | none::_,[],_,_,_,_,hm,_,_,_=>by simp[fD] at hm
 | some _::_,_::_,[],_,_,_,hm,_,_,_=>by simp[fD] at hm
 | none::_,_::_,[],_,_,_,hm,_,_,_=>by simp[fD] at hm
 | _::_,_::_,_::_,_::_,[],_,_,_,hl,_=>by simp at hl
theorem Yb{lk:Nat->Option aB}{τ:Ty}:∀ {ps:List (Nat×AV)} {n:Nat} {xs:List τ.den} {ids:List Nat},JU lk τ n ps=some (xs,ids)->xs.length=ps.length
 | [],n,xs,ids,h=>by
  simp only[JU,b4L,b4P] at h;obtain⟨rfl,_⟩:=h;rfl
 | (i,v)::ps,n,xs,ids,h=>by
  simp only[JU] at h;split at h
  .split at h
   .split at h
    .rename_i q;simp only[b4L,b4P] at h;obtain⟨rfl,_⟩:=h;simp[Yb q]
    .cases h
   .cases h
  .cases h
theorem T1(h:Inv c G s a w){τ:Ty}{place:Nat->Option (Nat×Nat)}(hp:∀ i,place i=some (i * τ.size,τ.size)) :
  ∀ {ps:List (Nat×AV)} {vs:List (Nat×Value)} {n:Nat} {xs:List τ.den} {ids:List Nat} {l:List Value},JU s.ah τ n ps=some (xs,ids)->aT (λ p q=>p.1=q.1/\VR c G s.ah w p.2 q.2) ps vs->ids.Nodup ->
   (n+ps.length) * τ.size=l.length->∃ r fp,Instr.fill place l.toArray vs=some (l.take (n * τ.size)++r).toArray/\bR w (xs.map τ.aP) r fp/\r.length=xs.length * τ.size/\fp.Nodup/\∀ b∈fp,wZ G s.ah ids b
 | [],[],n,xs,ids,l,h1,_,_,hl=>by
  simp only[JU,b4L,b4P] at h1;obtain⟨rfl,rfl⟩:=h1;refine⟨[],[],?_,rfl,by simp,b6b,by simp⟩;simp only[b5j,b6R] at hl;rw[hl,b7j,b6a];rfl
 | (i,v)::ps,(j,x)::vs,n,xs,ids,l,h1,hv,cR,hl=>by
  obtain⟨⟨DA,hx⟩,WN⟩:=hv;have DA:i=j:=DA;subst DA;simp only[JU] at h1;split at h1
  .rename_i eA;have eA:=b4O eA;subst eA;split at h1
   .rename_i y i1 hy;split at h1
    .rename_i ys js R6;simp only[b4L,b4P] at h1;obtain⟨rfl,rfl⟩:=h1;rw[b5s] at cR;obtain⟨n1,n2,n3⟩:=cR;obtain⟨f1,o1,o2,o3⟩:=mz h hy hx n1;have hr:=xH.cells o1;have cK:x.cells.size=τ.size:=by
      have:=Ow.length _ hr;rw[Ty.cN] at this;simpa using this
     simp only[b4Y] at hl;have Qi:=τ.size_pos;have e1:(i+(ps.length+1)) * τ.size=i * τ.size+τ.size+ps.length * τ.size:=by
      rw[b6i,b6i];omega
     rw[RT place i _ _ x vs l (hp i) cK (by omega)];obtain⟨r,f2,q1,q2,q3,q4,q5⟩:=T1 h hp (l:=l.take (i * τ.size)++x.cells.toList++l.drop (i * τ.size+τ.size)) R6 WN n2 (by
      simp[cK];rw[show (i+1+ps.length) * τ.size=i * τ.size+τ.size+ps.length * τ.size by rw[b6i,b6i];omega];omega)
     refine⟨x.cells.toList++r,f1++f2,?_,⟨_,_,f1,f2,rfl,rfl,hr,q2⟩,?_,?_,?_⟩
     .rw[q1];congr 2;rw[show (i+1) * τ.size=i * τ.size+τ.size by rw[b6i];omega];have ht:(l.take (i * τ.size)++x.cells.toList).length=i * τ.size+τ.size:=by simp[cK];omega
      rw[<-ht,b7c,b5O]
     .simp only[b5f,b4Y,b5S,cK,q3,b6i];omega
     .exact ei o2 q4 λ b hb cA=>h.iZ (o3 b hb) (q5 b cA) (λ x hx y hy=>n3 x hx y hy)
     .intro b hb;rcases b4Q.1 hb with hb|hb
      .exact (o3 b hb).mono λ i hi=>by simp[hi]
      .exact (q5 b hb).mono λ i hi=>by simp[hi]
    .cases h1
   .cases h1
  .cases h1
 | [],_::_,_,_,_,_,_,hv,_,_=>hv.elim
 | _::_,[],_,_,_,_,_,hv,_,_=>hv.elim
theorem bD.a8m{X Y:Nat->Prop}{w w':World}(h:bD X w w')(hXY:∀ b,X b->Y b):bD Y w w':=⟨h.os,h.tape,h.output,h.size,λ b hb hn=>h.block b hb λ hx=>hn (hXY b hx)⟩
theorem a0E(h:Inv c G s a w){ids:List Nat}{b:Nat}(hb:wZ G s.ah ids b):b<w.heap.size:=(PM h hb).2.2.1
theorem a2V{lk:Nat->Option aB}{τ:Ty}{v:AV}{r:τ.den×List Nat}(h:ea lk τ v=some r):v.cell=true\/∃ s x,v = .aH ⟨.st s,x⟩:=by
 cases v with
 | aH u =>
  obtain⟨bf,x⟩:=u;cases bf with
  | st s=>exact .inr ⟨s,x,rfl⟩
  | _=>exact .inl rfl
 | nil=>exact .inl rfl
 | av id=>exact .inl rfl
 | row id=>exact .inl rfl
 | _=>simp[ea] at h
theorem a9a(h:Inv c G s a w){τ:Ty}{v:AV}{x:Value}{xs:List τ.den}{ids:List Nat}(ht:ea s.ah (.slice τ) v=some (xs,ids))(hv:VR c G s.ah w v x):∃ fp,Ow w (.slice τ.size (xs.map τ.aP)) [x] fp/\fp.Nodup/\∀ b∈fp,wZ G s.ah ids b:=by
 rcases a2V ht with hc|⟨st,y,rfl⟩
 .exact BQ h ht (hv.Z6 hc)
 .simp[ea,Ty.ur] at ht
theorem jQ:∀ {us:List TV} {cs:List Value} {fp:List Nat},cT w (us.map TV.aP) cs fp->CO us->cT w ((us.map a3F).map TV.aP) cs fp
 | [],_,_,h,_=>h
 | ⟨τ,x⟩::us,cs,fp,h,hf=>by
  obtain⟨v,r,f1,f2,rfl,rfl,h3,h4⟩:=h;cases τ with
  | mv t =>
   have hf:Option.isSome (α:=List t.den) x=true/\CO us:=hf;refine⟨v,r,f1,f2,rfl,rfl,?_,jQ h4 hf.2⟩;match x,hf.1,h3 with
   | some l,_,h3=>exact h3
  | ptr=>exact⟨v,r,f1,f2,rfl,rfl,h3,jQ h4 hf⟩
  | int k=>exact⟨v,r,f1,f2,rfl,rfl,h3,jQ h4 hf⟩
  | bool=>exact⟨v,r,f1,f2,rfl,rfl,h3,jQ h4 hf⟩
  | str=>exact⟨v,r,f1,f2,rfl,rfl,h3,jQ h4 hf⟩
  | slice t=>exact⟨v,r,f1,f2,rfl,rfl,h3,jQ h4 hf⟩
  | st q=>exact⟨v,r,f1,f2,rfl,rfl,h3,jQ h4 hf⟩
theorem PA:∀ {us:List TV} {cs:List Value} {fp:List Nat},cT w (us.map TV.aP) cs fp->(∀ u∈us,u.τ.Vp=true)->cT w ((us.map a0o).map TV.aP) cs []
 | [],_,_,h,_=>⟨h.1,rfl⟩
 | ⟨τ,x⟩::us,cs,fp,h,hf=>by
  obtain⟨v,r,f1,f2,rfl,rfl,h3,h4⟩:=h;have hr:=PA h4 λ u hu=>hf u (by simp[hu]);have sc:τ.ur=true->Ow w (τ.aP x) [v] []:=λ hs=>Ow.ew (S:=λ _=>True) _ (uu hs x) (Ow.rd _ h3 λ _ _=>trivial);have hm:τ.Vp=true:=hf ⟨τ,x⟩ (by simp);cases τ with
  | mv t =>
   refine⟨v,r,[],[],rfl,rfl,?_,hr⟩;match x,h3 with
   | some l,h3=>obtain⟨a',cap,k1,_⟩:=h3;exact⟨⟨_,_,_,k1⟩,rfl⟩
   | none,h3=>exact⟨h3.1,rfl⟩
  | int k=>exact⟨v,r,[],[],rfl,rfl,sc rfl,hr⟩
  | bool=>exact⟨v,r,[],[],rfl,rfl,sc rfl,hr⟩
  | str=>exact⟨v,r,[],[],rfl,rfl,sc rfl,hr⟩
  | slice t=>cases hm
  | ptr=>exact⟨v,r,[],[],rfl,rfl,sc rfl,hr⟩
  | st q=>cases hm
theorem a6B(l:List Value)(k n:Nat):l.take k++(l.drop k).take n++l.drop (k+n)=l:=by
 rw[b5O,<-b6C,b6d,b6d]
theorem Inv.b1Y(h:Inv c G s a w){id i:Nat}{p q:aV}{xs:List (Ty.den (.st p))}{y:p.den}{z:q.den}(aY:s.ah id=some (.av (.st p) xs))
  (hy:p.fS ((p.cells (xs.getD i (Ty.zero (.st p)))).map a0o)=some y) (hz:q.fS ((p.cells (xs.getD i (Ty.zero (.st p)))).map a3F)=some z) (DD:p.tA.all Ty.Vp=true)
  (b1K:CO (p.cells (xs.getD i (Ty.zero (.st p))))) {a0:Option Addr} {n cap:Nat} {l:List Value} (ec:G.η id = .tuple (.slice a0 n cap::l).toArray) (hi:i<n) :
  ∃ G' f1 b,a0=some ⟨b,0,none⟩/\cf w b (i * p.size) ((l.drop (i * p.size)).take p.size)/\((l.drop (i * p.size)).take p.size).length=p.size/\Inv c G' (s.bU.dn id (.st p) (xs.set i y)) a w /\
   Ow w (q.aP z) ((l.drop (i * p.size)).take p.size) f1/\f1.Nodup/\Fr c G' (s.bU.dn id (.st p) (xs.set i y)).ah w f1:=by
 have hT:=h.aL.tr id _ xs aY;obtain⟨hn,b,f,t,e1,Ql,hh,eG⟩:=xC hT ec hi;have WS:i<xs.length:=by omega
 have Gc:l.length=cap * p.size/\xs.length<=cap/\cap<=maxLen/\xs.length<=140737488355328:=by
  obtain⟨v0,l0,a1,V0,k1,k2,k3,k4,k5,k6⟩:=hT;rw[ec] at k1;simp only[b6r] at k1;have k1:(Value.slice a0 n cap::l)=v0::l0:=congrArg Array.toList k1;simp only[b4X] at k1;obtain⟨k7,rfl⟩:=k1;rw[k2] at k7;simp only[b6v] at k7;obtain⟨_,_,rfl⟩:=k7;rcases k6 with ⟨rfl,_,_⟩|⟨_,_,_,_,_,_,k8,_⟩
  .simp at WS
  .exact⟨k8,k3,k4,k5⟩
 have cK:∀ d∈xs.map (Ty.aP (.st p)),d.size=p.size:=N2 (τ := .st p) xs;obtain⟨f0,f1,f2,hf,m0,m1,m2⟩:=bR.split (xs.map (Ty.aP (.st p))) i (Ty.aP (.st p) (xs.getD i (Ty.zero (.st p)))) eG cK (by simp[List.getD,WS]);have wD:((l.drop (i * p.size)).take p.size).length=p.size:=by rw[b5n,b6f];omega
 have m1:Ow w (.agg ((p.cells (xs.getD i (Ty.zero (.st p)))).map TV.aP)) ((l.drop (i * p.size)).take p.size) f1:=by
  have:=m1;rwa [show Ty.aP (.st p) (xs.getD i (Ty.zero (.st p)))=p.aP (xs.getD i (Ty.zero (.st p))) from rfl,aV.cz] at this
 have hz':Ow w (q.aP z) ((l.drop (i * p.size)).take p.size) f1:=by
  rw[aV.cz,aV.og hz];exact jQ m1 b1K
 have hy':Ow w (p.aP y) ((l.drop (i * p.size)).take p.size) []:=by
  rw[aV.cz,aV.og hy];refine PA m1 λ u hu=>?_;have:u.τ∈p.tA:=by rw[<-aV.oJ p (xs.getD i (Ty.zero (.st p)))];exact b4W.2 ⟨u,hu,rfl⟩
  exact b5F.1 DD _ this
 have hr:=m2 w (p.aP y) _ [] (λ _ _=>rfl) wD hy';rw[a6B,b6a] at hr;have cR:=h.aL.nd id _ xs aY;rw[Ql,b5G,hf] at cR;obtain⟨P8,cR⟩:=cR;have b4J:=cR;rw[b5s,b5s] at cR;obtain⟨⟨d0,d1,d01⟩,d2,b0D⟩:=cR;have Ys:ie w (G.η id) (.st p) (xs.set i y) (b::(f0++f2)):=by
  refine⟨_,l,a0,cap,ec,by rw[hn,b5V],by rw[b5V];exact Gc.2.1,Gc.2.2.1,by rw[b5V];exact Gc.2.2.2, .inr ⟨b,f0++f2,t,e1,rfl,hh,Gc.1,?_⟩⟩;rw[b7U];exact hr
 have qv:∀ k∈b::(f0++f2),k∈G.φ id:=λ k hk=>by
  rw[Ql,hf];simp only[b5h,b4Q] at hk ⊢;rcases hk with hk|hk|hk<;>simp[hk]
 have a7L:(b::(f0++f2)).Nodup:=by
  refine b5G.2 ⟨λ hk=>P8 ?_,ei d0 d2 λ x hx DE=>b0D x (by simp[hx]) x DE rfl⟩;simp only[b4Q] at hk ⊢;rcases hk with hk|hk<;>simp[hk]
 have hf1:∀ k∈f1,k∈G.φ id/\k∉b::(f0++f2):=λ k hk=>by
  refine⟨by rw[Ql,hf];simp[hk],λ hm=>?_⟩;simp only[b5h,b4Q] at hm;rcases hm with rfl|hm|hm
  .exact P8 (by simp[hk])
  .exact d01 k hm k hk rfl
  .exact b0D k (by simp[hk]) k hm rfl
 obtain⟨g1,g2,g3⟩:=h.bU;have ZD:s.bU.ah id=some (.av (.st p) xs):=by rw[ku];simp[aY,aB.dh]
 let A:List (Nat×TE):=[(id,(G.η id,b::(f0++f2), .av (.st p) (xs.set i y)))];have T:=LF.ofList (c:=c) (G:=G) (lk:=s.bU.ah) (w:=w) (w':=w) (A:=A) (λ e he=>by
  simp only[A,b5t] at he;subst he;exact⟨_,xs,_,_,l,l,ZD,rfl,ec,ec,Ys,a7L⟩) (λ e he k hk=>by
  simp only[A,b5t] at he;subst he;exact .inl ⟨_,b5t.2 rfl,qv k hk⟩) (λ e he e' Dy _ _ _=>by
  simp only[A,b5t] at he Dy;rw[he,Dy]) (by simp[A]) (λ _ _ _=>rfl) rfl rfl rfl (b5w _)
 have hI:=bw.fc g1 T g2 g3;have ct:(s.bU.dn id (.st p) (xs.set i y)).ah=Vb A s.bU.ah:=by
  funext j;rw[eQ,JW]
 refine⟨⟨G.S,JY A G,BR A G⟩,f1,b,e1,?_,wD,?_,hz',d1,?_⟩
 .have:=(cf.of_heap hh).part (i * p.size) p.size;rwa [b6w] at this
 .unfold Inv;rw[ct];exact hI
 .intro k hk;obtain⟨k1,k2⟩:=hf1 k hk;obtain⟨q1,q2,q3,q4⟩:=g1.aL.pl id _ xs k ZD k1;refine⟨q1,q2,q3,λ j o hj nS=>?_,λ j τ ys hj nS=>?_⟩
  .have nS:ef (JY A G j)=some k:=nS;rw[eQ] at hj;by_cases vH:j=id
   .subst vH;have:JY A G j=G.η j:=by simp[JY,A,ah]
    rw[this,ec] at nS;cases nS
   .rw[b4Z vH] at hj;have:JY A G j=G.η j:=by
     have eR:Nat.beq id j=false:=by
      cases hb:Nat.beq id j with
      | false=>rfl
      | true=>exact absurd (b4O hb).symm vH
     simp[JY,A,ah,eR]
    rw[this] at nS;exact q4 j o hj nS
  .have nS:k∈BR A G j:=nS;rw[eQ] at hj;by_cases vH:j=id
   .subst vH;have:BR A G j=b::(f0++f2):=by simp[BR,A,ah]
    rw[this] at nS;exact k2 nS
   .rw[b4Z vH] at hj;have:BR A G j=G.φ j:=by
     have eR:Nat.beq id j=false:=by
      cases hb:Nat.beq id j with
      | false=>rfl
      | true=>exact absurd (b4O hb).symm vH
     simp[BR,A,ah,eR]
    rw[this] at nS;exact vH (g1.aL.ap j id _ _ _ _ k hj ZD nS k1)
theorem a3r(hE:bF c.P c.E)(h:Inv c G s a w){o:Oper}{vc:Vc}{s':aj}(hq:bop c.E s o=some (vc,s'))(eb:vc.ok){Q:Exit->Act->World->Prop} :
  o.wp c.P a w (λ a' w'=>∃ G',Inv c G' s' a' w') Q:=by
 unfold bop at hq;split at hq;case h_2=>cases hq
 case h_1 d hd =>
 split at hq;case h_2=>cases hq
 case h_1 n9 =>
 split at hq;case h_4=>cases hq
 case h_1 T len parts bz =>
  split at hq;case h_2=>cases hq
  case h_1 τ p hT =>
  obtain⟨b,e⟩:=p;split at hq;case h_2=>cases hq
  case h_1 hlen =>
  split at hq;case h_2=>cases hq
  case h_1 xs ids lh =>
  split at hq;case h_2=>cases hq
  case h_1 hb sw =>
  simp only[b4L,b4P] at hq;obtain⟨rfl,rfl⟩:=hq;simp only[b4S] at hlen;have hl1:=b4O hlen.1;have hl2:=b5R hlen.2;subst hl1;obtain⟨h1,⟨b',e',h2⟩,i,z,h3,h4,h5,h6,h7⟩:=hE.slice hT;have Qi:=τ.size_pos;have Qh:τ.size<=100:=Ty.size_le τ;have P9:parts.size * τ.size<=16777216:=b6x (b8a hl2 Qh) (by decide);obtain⟨r,fp,h8,h9,h10,h11,h12⟩:=T1 (place:=λ i=>some (i * τ.size,τ.size)) h (λ _=>rfl) (l:=((Array.range (parts.size * τ.size)).map (λ j=>((if parts.size * τ.size=0 then #[] else z.cells:Array Value)[j % (if parts.size * τ.size=0 then #[] else z.cells:Array Value).size]!))).toList) lh (aT.Kk (bp h) _) (cW hb) (by simp);have vI:=Yb lh;simp only[b5g,b5S] at vI;rw[vI] at h10;simp only[b7S,b5T,b5q,b5X] at h8;have cI:(execOp a.eval o).run c.P w = .ok (.value (.slice (some ⟨w.heap.size,0,none⟩) parts.size parts.size)) (w.alloc (.cells r.toArray e)):=by
   have e2:(parts.map λ (i,x)=>(i,a.eval x)).toList=parts.toList.map λ p=>(p.1,a.eval p.2):=by simp
   have fM:¬ (parts.size * τ.size>2 ^ 24):=by omega
   simp only[execOp,bz,Instr.buildSlice,b5x,b5N h1,b5r,hE.sizeOf h2,b4Z fM,b5A];by_cases h0:parts.size * τ.size=0
   .simp only[h0,b6M,b5x,b5A,b5r,e2] at h8 ⊢;rw[h8];simp[newRow]
   .simp only[h0,b7M,b5x,zeroValue,typeInfo,run_program,b5r,h3,h6,b5A,e2] at h8 ⊢;rw[h8];simp[newRow]
  unfold Oper.wp;rw[cI];show ∃ G',Inv c G' _ (a.put o.dst _) _;rw[hd];have bK:∀ k∈fp,k<w.heap.size:=λ k hk=>a0E h (h12 k hk);have eG:bR (w.alloc (.cells r.toArray e)) (xs.map τ.aP) r fp:=bR.aR _ h9 λ k hk=>heap_alloc_old w _ k (bK k hk);refine Inv.built h (zs:=xs) (fp:=w.heap.size::fp) (l:=r) ((gD w _).a8m λ _ k=>k.elim) ⟨_,_,some ⟨w.heap.size,0,none⟩,parts.size,rfl,by rw[vI],by rw[vI];omega,by simp only[maxLen];omega,by rw[vI];omega, .inr ⟨w.heap.size,fp,e,rfl,rfl,heap_alloc_new w _,h10,eG⟩⟩ ⟨_,_,_,rfl⟩ (List.nodup_cons.2 ⟨λ hh=>Nat.lt_irrefl _ (bK _ hh),h11⟩) (λ k hk=>?_) sw;rcases List.mem_cons.1 hk with rfl|hk
  .exact .inr ⟨b5w _,by simp⟩
  .exact .inl (h12 k hk)
 case h_2 T ad bz =>
  split at hq;case h_2=>cases hq
  case h_1 q r id i sz hT hx =>
  split at hq;case h_2=>cases hq
  case h_1 p xs aY =>
  split at hq;case h_2=>cases hq
  case h_1 y z hb hy hz =>
  split at hq;case h_2=>cases hq
  case h_1 Lb =>
  simp only[b4L,b4P] at hq;obtain⟨rfl,rfl⟩:=hq;simp only[b4S] at hb Lb;have cK:=b4O hb.1;subst cK;have hp:=bp h ad;rw[hx] at hp;obtain⟨_,b,n,cap,l,ec,hi,hp⟩:=hp;obtain⟨G1,f1,b',e1,qq,hlen,hI,hO,cR,hF⟩:=h.b1Y aY hy hz hb.2 eb ec hi;simp only[b4L,b6A,b5d] at e1;subst e1;have hqs:q.size=p.size:=by
   have e:=Ow.length _ hO;rw[show (q.aP z).size=q.size from Ty.cN (.st q) z] at e;omega
  have cI:(execOp a.eval o).run c.P w = .ok (.value (.agg ((l.drop (i * p.size)).take p.size).toArray)) w:=by
   simp only[execOp,bz,hp,b6R,b5x,jS hE hT qq (by rw[hlen];exact hqs.symm),b5r,b5A];rfl
  unfold Oper.wp;rw[cI];show ∃ G',Inv c G' _ (a.put o.dst _) _;rw[hd];have vF:∀ e∈bX (bV d) (TV.cells ⟨.st q,z⟩),(s.bU.dn id (.st p) (xs.set i y)).ah e.1=none:=λ e he=>by
   have h0:(s.ah e.1).isNone=true:=b5F.1 Lb.1 e he;have eR:e.1≠id:=λ hh=>by rw[hh,aY] at h0;cases h0
   rw[eQ,b4Z eR,ku];show Option.map aB.dh (s.ah e.1)=none;cases hl:s.ah e.1 with
   | none=>rfl
   | some o=>rw[hl] at h0;cases h0
  obtain⟨G2,lk',k1,k2,k3,k4,_⟩:=bw.OU (v:=⟨.st q,z⟩) (id:=bV d) hI ⟨_,rfl,hO⟩ cR hF vF (cW Lb.2) (λ j hj=>by
   cases hr:c.R j with
   | none=>rfl
   | some v=>have:=h.ic j v hr;unfold bV at hj;omega)
  refine⟨G2,?_⟩;have ct:aj.ah { aC:=s.bU.aC.set d (eZ (bV d) ⟨.st q,z⟩),aJ:=bX (bV d) (q.cells z)++(s.bU.dn id (.st p) (xs.set i y)).aJ }=lk':=by
   funext j;rw[k1 j];exact pF _ _ j
  unfold Inv;rw[ct,show aj.sl { aC:=s.bU.aC.set d (eZ (bV d) ⟨.st q,z⟩),aJ:=bX (bV d) (q.cells z)++(s.bU.dn id (.st p) (xs.set i y)).aJ }=jV s.bU.aC.length s.bU.sl (some d) (eZ (bV d) ⟨.st q,z⟩) from re s.bU.aC d _ _,
   show ({ aC:=s.bU.aC.set d (eZ (bV d) ⟨.st q,z⟩),aJ:=bX (bV d) (q.cells z)++(s.bU.dn id (.st p) (xs.set i y)).aJ }:aj).aC.length=s.bU.aC.length from by simp]
  exact bw.put k2 k4.fU
 case h_3 cl bz =>
  split at hq;case h_3=>cases hq
  case h_2 f fZ =>
   split at hq;case h_1=>cases hq
   case h_2 fl _ _ =>
   split at hq;case h_2=>cases hq
   case h_1 own ids ht =>
   split at hq;case h_2=>cases hq
   case h_1 Z9 hb has =>
   split at hq;case h_2=>cases hq
   case h_1 pre res hc =>
   split at hq;case h_2=>cases hq
   case h_1 Lb =>
   simp only[Option.some.injEq,Prod.mk.injEq] at hq;obtain⟨rfl,rfl⟩:=hq;simp only[Bool.and_eq_true,List.all_eq_true] at Lb;have vF:∀ p∈bx (bV d) res,(ids.foldl aj.gone s).ah p.1=none:=λ p hp=>by simpa using Lb.1 p hp
   have rB:=cW Lb.2;obtain⟨l7,gC⟩:=hE.Mg f Z9 pre res hc eb;obtain⟨Cc,t1,t2,t3,t4⟩:=z7 h ht (cW hb) (aT.kz (bp h) _);have h1:Inv c G (ids.foldl aj.gone s) a w:=yz ids h;have hF:∀ b,b∈Cc.flatten->wY c G (ids.foldl aj.gone s).ah w b:=λ b hb=>PM h (t4 b hb);obtain⟨m1,m2⟩:=vQ hE h1 has t1 t2 (aT.kz (bp h1) _);generalize hs1:ids.foldl aj.gone s=s1 at *
   unfold Oper.wp;rw[fT bz fZ rfl l7];simp only[Oper.upon];refine (gC w (SX G s1.ah) _ Cc.flatten ?_ m1 (.inr m2) t3 (λ b hb=>⟨(hF b hb).2.2.1,(hF b hb).a9V⟩)).mono ?_
   .exact h1.a2U
   .rintro e w' ⟨x,fp,rfl,hk,hO,cR,jM⟩;have hI:=Inv.over h1 hF hk;obtain⟨ys,mR,Uq⟩:=Oj (c:=c) (id:=bV d) hO;have hFr:Fr c G s1.ah w' fp:=λ b hb=>by
     rcases jM b hb with hi|⟨q1,q2⟩
     .obtain⟨f1,f2,f3,f4,f5⟩:=hF b hi;exact⟨f1,f2,b5i f3 hk.size,f4,f5⟩
     .refine⟨.inl (b6x h1.aR.size q1),λ hs=>?_,q2,λ i o' hi qp=>?_,λ j τ zs hj nS=>?_⟩
      .have:=h1.dB b hs;omega
      .have:=(h1.place i o' b hi qp).2.2;omega
      .have:=(h1.aL.pl j τ zs b hj nS).2.2.1;omega
    obtain⟨G',lk',k1,k2,k3,k4,_⟩:=hI.OV (id:=bV d) mR cR hFr vF rB (λ j hj=>by
     cases hr:c.R j with
     | none=>rfl
     | some v=>have:=h.ic j v hr;unfold bV at hj;omega)
    refine⟨G',?_⟩;have ct:aj.ah { aC:=s1.aC.set d (kB (bV d) res),aJ:=bx (bV d) res++s1.aJ }=lk':=by
     funext i;rw[k1 i];exact pF _ _ i
    unfold Inv;rw[ct,hd,show aj.sl { aC:=s1.aC.set d (kB (bV d) res),aJ:=bx (bV d) res++s1.aJ }=jV s1.aC.length s1.sl (some d) (kB (bV d) res) from re s1.aC d _ _,
     show ({ aC:=s1.aC.set d (kB (bV d) res),aJ:=bx (bV d) res++s1.aJ }:aj).aC.length=s1.aC.length from by simp]
    exact bw.put k2 (Uq G' lk' k4)
  case h_1 fZ =>
  split at hq;case h_2=>cases hq
  case h_1 T T' hTs =>
  split at hq;case h_2=>cases hq
  case h_1 τ b e Wu hT =>
  have Wu:=b4O Wu;subst Wu;split at hq;case h_2=>cases hq
  case h_1 x y dr =>
  split at hq;case h_2=>cases hq
  case h_1 xs i ys j hx hy =>
  split at hq;case h_2=>cases hq
  case h_1 hb sw =>
  simp only[b4L,b4P] at hq;obtain⟨rfl,rfl⟩:=hq;obtain⟨v,z,e1,e2,e3⟩:=Ve h dr;have hb:=cW hb;rw[b5s] at hb;obtain⟨n1,n2,n3⟩:=hb;obtain⟨fx,o1,o2,o3⟩:=a9a h hx e2;obtain⟨fy,p1,p2,p3⟩:=a9a h hy e3;obtain⟨v',w',fp,l,k1,k2,k3,k4,k5,k6⟩:=a0d (c:=c) (w:=w) hE hT o1 p1 (λ k hk=>a0E h (o3 k hk)) (λ k hk=>a0E h (p3 k hk)) o2 p2
   (λ k hk kM=>h.iZ (o3 k hk) (p3 k kM) λ x hx y hy=>n3 x hx y hy) eb o.type
  have P4:cl.argTypes = #[T,T]:=by rw[<-b5X (xs:=cl.argTypes),hTs]
  have IV:cl.args.map a.eval = #[v,z]:=by rw[<-b5X (xs:=cl.args.map a.eval),b6S,e1]
  have WA:(execOp a.eval o)=(do let d <-resolve a.eval cl o.type;invoke d.target d.args):=by simp[execOp,bz]
  have TC:(execOp a.eval o).run c.P w=((Builtin.append_ #[T,T] o.type #[v,z]).run c.P w).andThen λ v w => .ok (.value v) w:=by
   rw[WA];simp[resolve,fZ,invoke,builtin,P4,IV]
  unfold Oper.wp;rw[TC,k1];show ∃ G',Inv c G' _ (a.put o.dst _) _;rw[hd];refine Inv.built h (zs:=xs++ys) (fp:=fp) (l:=l) (k6.a8m λ k hk=>(o3 k hk).mono λ i hi=>by simp[hi]) k2 k3 k4 (λ k hk=>?_) sw;rcases k5 k hk with hk|hk|hk
  .exact .inl ((o3 k hk).mono λ i hi=>by simp[hi])
  .exact .inl ((p3 k hk).mono λ i hi=>by simp[hi])
  .exact .inr hk
end
def b2j:Value->Nat
 | .pointer (some a)=>a.block
 | _=>0
def kJ(G:Gh)(m:List (Nat×Nat))(k:Nat):Nat:=match ah m k with
 | some id=>b2j (G.η id)
 | none=>0
def lr(m m':List (Nat×Nat)):Prop:=∀ k id,ah m k=some id->ah m' k=some id
theorem lr.refl(m:List (Nat×Nat)):lr m m:=λ _ _ h=>h
theorem lr.trans{a b c:List (Nat×Nat)}(h:lr a b)(k:lr b c):lr a c:=λ i id q=>k i id (h i id q)
theorem pG{α:Type}(k:Nat)(o:α)(l:List (Nat×α))(j:Nat):ah ((k,o)::l) j=if j=k then some o else ah l j:=by
 have e:ah ((k,o)::l) j=match Nat.beq k j with
  | true=>some o
  | false=>ah l j:=rfl
 rw[e];cases hb:Nat.beq k j with
 | true=>rw[b5u (b4O hb).symm]
 | false=>rw[b4Z (λ e=>by subst e;rw[Nat.beq_refl] at hb;cases hb)]
theorem Wa{m:List (Nat×Nat)}{k id:Nat}(h:ah m k=none):lr m ((k,id)::m):=λ i j q=>by
 rw[pG];by_cases hi:i=k
 .subst hi;rw[h] at q;cases q
 .rw[b4Z hi];exact q
theorem Xi{m:List (Nat×Nat)}{k id:Nat}:ah ((k,id)::m) k=some id:=by rw[pG,b5u rfl]
section
variable {c:Ctx} {G:Gh} {s:aj} {a:Act} {w w':World}
theorem a7d{lk:Nat->Option aB}{τ:Ty}{v:AV}{x:Value}{y:τ.den}(h:jN (λ _=>none) τ v=some y)(hv:C1 c G lk w v x):Rd w G.S (τ.aP y) [x]:=Vf h hv
theorem oH{sl:Nat->AV}{n:Nat}{lk:Nat->Option aB}(h:bw c G sl n lk a w):∀ {ks:List CK} {cs:List AV} {m m':List (Nat×Nat)} {ds:List TV} {ids:List Nat} {l:List Value},df lk ks cs m=some (ds,ids,m')->ids.Nodup->aT (C1 c G lk w) cs l ->
  lr m m'/\∃ fp,(∀ mf,lr m' mf->jg w G.S (kJ G mf) ks ds l fp)/\fp.Nodup/\∀ b∈fp,wZ G lk ids b
 | [],[],m,m',ds,ids,l,ht,_,hv=>by
  simp only[df,b4L,b4P] at ht;obtain⟨rfl,rfl,rfl⟩:=ht;match l,hv with
  | [],_=>exact⟨lr.refl _,[],λ _ _=>rfl,b6b,by simp⟩
 | .d τ::ks,v::cs,m,m',ds,ids,l,ht,hn,hv=>by
  simp only[df] at ht;split at ht;case h_2=>cases ht
  case h_1 y hy wC =>
  split at ht;case h_2=>cases ht
  case h_1 ds1 a2a m1 hr =>
  simp only[b4L,b4P] at ht;obtain⟨rfl,rfl,rfl⟩:=ht;match l,hv with
  | x::l,hv =>
   obtain⟨e1,fp,e2,e3,e4⟩:=oH h hr hn hv.2;exact⟨e1,fp,λ mf hm=>⟨⟨rfl,wC,a7d hy hv.1⟩,e2 mf hm⟩,e3,e4⟩
 | .o τ::ks,v::cs,m,m',ds,ids,l,ht,hn,hv=>by
  simp only[df] at ht;split at ht;case h_2=>cases ht
  case h_1 y i hy wC =>
  split at ht;case h_2=>cases ht
  case h_1 ds1 a2a m1 hr =>
  simp only[b4L,b4P] at ht;obtain⟨rfl,rfl,rfl⟩:=ht;rw[b5s] at hn;obtain⟨n1,n2,n3⟩:=hn;match l,hv with
  | x::l,hv =>
   obtain⟨e1,fp,e2,e3,e4⟩:=oH h hr n2 hv.2;obtain⟨f1,o1,o2,o3⟩:=BQ h hy hv.1;refine⟨e1,f1++fp,λ mf hm=>⟨f1,fp,rfl,⟨rfl,wC,o1⟩,e2 mf hm⟩,ei o2 e3 λ b hb cA=>h.iZ (o3 b hb) (e4 b cA) λ x hx y hy=>n3 x hx y hy,λ b hb=>?_⟩;rcases b4Q.1 hb with hb|hb
   .exact (o3 b hb).mono λ k hk=>by simp[hk]
   .exact (e4 b hb).mono λ k hk=>by simp[hk]
 | .p j::ks,v::cs,m,m',ds,ids,l,ht,hn,hv=>by
  simp only[df] at ht;split at ht;case h_2=>cases ht
  case h_1 id =>
  match l,hv with
  | x::l,hv =>
   have key:∀ m1,df lk ks cs m1=some (ds,ids,m')->lr m m1->ah m1 j=some id->lr m m'/\∃ fp,(∀ mf,lr m' mf->jg w G.S (kJ G mf) (.p j::ks) ds (x::l) fp)/\fp.Nodup/\∀ b∈fp,wZ G lk ids b:=λ m1 hr hx hj=>by
    obtain⟨e1,fp,e2,e3,e4⟩:=oH h hr hn hv.2;refine⟨hx.trans e1,fp,λ mf hm=>?_,e3,e4⟩;have hv1:C1 c G lk w (.ptr id 0) x:=hv.1;obtain⟨b,h1,h2,_⟩:=hv1;have:kJ G mf j=b:=by
     simp only[kJ,hm j id (e1 j id hj),h1];rfl
    cases ds with
    | nil=>exact⟨by rw[this];exact h2,e2 mf hm⟩
    | cons d ds=>exact⟨by rw[this];exact h2,e2 mf hm⟩
   split at ht
   .rename_i i hi;split at ht
    .rename_i hb;have hb:=b4O hb;subst hb;exact key m ht (lr.refl _) hi
    .cases ht
   .rename_i fM;exact key _ ht (Wa fM) Xi
 | [],_::_,_,_,_,_,_,ht,_,_=>by simp[df] at ht
 | .d _::_,[],_,_,_,_,_,ht,_,_=>by simp[df] at ht
 | .o _::_,[],_,_,_,_,_,ht,_,_=>by simp[df] at ht
 | .p _::_,[],_,_,_,_,_,ht,_,_=>by simp[df] at ht
def b1n(lk:Nat->Option aB)(m:List (Nat×Nat))(k0 n:Nat):Prop:=∀ k,k0<=k->k<k0+n->∃ id cs,ah m k=some id/\lk id=some (.box cs)
theorem wb{sl:Nat->AV}{n:Nat}{lk:Nat->Option aB}(h:bw c G sl n lk a w):∀ {sh:List (List CK)} {k:Nat} {m m':List (Nat×Nat)} {bN:List (List TV)} {ids:List Nat},je lk sh k m=some (bN,ids,m')->ids.Nodup ->
  lr m m'/\b1n lk m' k sh.length/\∃ fp,(∀ mf,lr m' mf->fF w G.S (kJ G mf) k sh bN fp)/\fp.Nodup/\∀ b∈fp,wZ G lk ids b
 | [],k,m,m',bN,ids,ht,_=>by
  simp only[je,b4L,b4P] at ht;obtain⟨rfl,rfl,rfl⟩:=ht;exact⟨lr.refl _,λ j h1 h2=>by simp at h2;omega,[],λ _ _=>rfl,b6b,by simp⟩
 | ks::sh,k,m,m',bN,ids,ht,hn=>by
  simp only[je] at ht;split at ht;case h_2=>cases ht
  case h_1 id aY =>
  split at ht;case h_2=>cases ht
  case h_1 cs kj =>
  split at ht;case h_2=>cases ht
  case h_1 ds i m1 hr =>
  split at ht;case h_2=>cases ht
  case h_1 b3c a2a m2 hr2 =>
  simp only[b4L,b4P] at ht;obtain⟨rfl,rfl,rfl⟩:=ht;rw[b5s] at hn;obtain⟨n1,n2,n3⟩:=hn;obtain⟨b,l,t,q1,q2,q3⟩:=h.aJ id _ kj;obtain⟨e1,f1,e2,e3,e4⟩:=oH h hr n1 q3;obtain⟨g1,g0,f2,g2,g3,g4⟩:=wb h hr2 n2;refine⟨e1.trans g1,λ j h1 h2=>?_,f1++f2,λ mf hm=>⟨l,t,f1,f2,rfl,?_,e2 mf (g1.trans hm),g2 mf hm⟩,ei e3 g3 λ b hb cA=>h.iZ (e4 b hb) (g4 b cA) λ x hx y hy=>n3 x hx y hy,λ b hb=>?_⟩
  .by_cases hj:j=k
   .subst hj;exact⟨id,cs,(e1.trans g1) j id aY,kj⟩
   .exact g0 j (by omega) (by simp at h2;omega)
  .have:kJ G mf k=b:=by
    simp only[kJ,hm k id ((e1.trans g1) k id aY),q1];rfl
   rw[this];exact q2
  .rcases b4Q.1 hb with hb|hb
   .exact (e4 b hb).mono λ k hk=>by simp[hk]
   .exact (g4 b hb).mono λ k hk=>by simp[hk]
theorem xT:∀ {fl:List (Option Nat)} {vs:List AV} {m m':List (Nat×Nat)},jt fl vs m=some m'->lr m m'/\∀ (i k:Nat),fl[i]?=some (some k)->∃ id,vs[i]?=some (AV.ptr id 0)/\ah m' k=some id
 | [],[],m,m',h=>by
  simp only[jt,b4L] at h;subst h;exact⟨lr.refl _,λ i k q=>by simp at q⟩
 | none::fl,v::vs,m,m',h=>by
  obtain⟨h1,h2⟩:=xT (fl:=fl) (vs:=vs) h;refine⟨h1,λ i k q=>?_⟩;cases i with
  | zero=>simp at q
  | succ i=>exact h2 i k (by simpa using q)
 | some k::fl,v::vs,m,m',h=>by
  simp only[jt] at h;split at h;case h_2=>cases h
  case h_1 id =>
  have key:∀ m1,lr m m1->ah m1 k=some id->jt fl vs m1=some m'->lr m m'/\∀ (i k':Nat),(some k::fl)[i]?=some (some k')->∃ dy,(AV.ptr id 0::vs)[i]?=some (AV.ptr dy 0)/\ah m' k'=some dy:=λ m1 e1 e2 e3=>by
   obtain⟨h1,h2⟩:=xT e3;refine⟨e1.trans h1,λ i k' q=>?_⟩;cases i with
   | zero =>
    simp only[b8y,b4L] at q;subst q;exact⟨id,rfl,h1 k id e2⟩
   | succ i=>exact h2 i k' (by simpa using q)
  split at h
  .rename_i i hi;split at h
   .rename_i hb;have hb:=b4O hb;subst hb;exact key m (lr.refl _) hi h
   .cases h
  .rename_i fM;exact key _ (Wa fM) Xi h
 | [],_::_,_,_,h=>by simp[jt] at h
 | some _::_,[],_,_,h=>by simp[jt] at h
 | none::_,[],_,_,h=>by simp[jt] at h
theorem xy{lk:Nat->Option aB}{ids:List Nat}{id:Nat}{o:aB}(h:a0U lk ids id=some o):lk id=some o/\id∉ids/\∃ cs,o = .box cs:=by
 unfold a0U at h;split at h
 .cases h
 .rename_i hc;split at h
  .rename_i cs kj;simp only[Option.some.injEq] at h;subst h;exact⟨kj,by simpa using hc,cs,rfl⟩
  .cases h
theorem a5Z{S S':Nat->Prop}{τ:Ty}{y:τ.den}{x:Value}(hf:(match CK.d τ with | .d (.slice _)=>false | .d (.mv _)=>false|_=>true)=true)(ha:τ.agg=false)(h:Rd w S (τ.aP y) [x]):Rd w S' (τ.aP y) [x]:=by
 cases τ with
 | slice t=>cases hf
 | mv t=>cases hf
 | st s=>cases ha
 | _=>exact h
theorem jg.flat{S S':Nat->Prop}{B:Nat->Nat}:∀ {ks:List CK} {ds:List TV} {l:List Value} {fp:List Nat},(ks.all λ k=>match k with | .d (.slice _)=>false | .d (.mv _)=>false|_=>true)=true->jg w S B ks ds l fp->jg w S' B ks ds l fp:=by
 intro ks;induction ks with
 | nil=>intro ds l fp _ h;cases ds<;>cases l<;>exact h
 | cons k0 ks ih =>
  intro ds l fp hf h;rw[List.all_cons,b4S] at hf;cases l with
  | nil=>cases k0<;>cases ds<;>cases h
  | cons x l =>
   cases k0 with
   | d τ =>
    cases ds with
    | nil=>cases h
    | cons v ds =>
     obtain⟨⟨e,h1,h2⟩,h3⟩:=h;refine⟨⟨e,h1,?_⟩,ih hf.2 h3⟩;obtain⟨bf,y⟩:=v;simp only at e;subst e;exact a5Z hf.1 h1 h2
   | o τ =>
    cases ds with
    | nil=>cases h
    | cons v ds =>
     obtain⟨f1,f2,e,h1,h2⟩:=h;exact⟨f1,f2,e,h1,ih hf.2 h2⟩
   | p j =>
    have h:x = .pointer (some ⟨B j,0,none⟩)/\jg w S B ks ds l fp:=by cases ds<;>exact h
    have r:=ih hf.2 h.2;cases ds<;>exact⟨h.1,r⟩
theorem fF.flat{S S':Nat->Prop}{B:Nat->Nat}:∀ {sh:List (List CK)} {k:Nat} {bN:List (List TV)} {fa:List Nat},PH sh=true->fF w S B k sh bN fa->fF w S' B k sh bN fa
 | [],k,bN,fa,_,h=>by cases bN<;>exact h
 | ks::sh,k,[],fa,_,h=>h.elim
 | ks::sh,k,ds::bN,fa,hf,h=>by
  obtain⟨l,t,f1,f2,e,h1,h2,h3⟩:=h;unfold PH at hf;rw[List.all_cons,Bool.and_eq_true] at hf;exact⟨l,t,f1,f2,e,h1,h2.flat hf.1,fF.flat hf.2 h3⟩
theorem OO.more{P:Program}{f:FuncId}{sh:List (List CK)}{args:List Arg}{bN:List (List TV)}{res:List TV}{dI:List (List TV)}(h:OO P f sh args bN res dI)(Yy:PH sh=true){S T:Nat->Prop}{B:Nat->Nat}{b9:List Value}{fa:List Nat}(hT:tm w T)(hST:∀ b,S b->T b)
  (hX:∀ b,BX sh.length B fa b->¬ T b) (Ws:fF w S B 0 sh bN fa) (TD:fa.Nodup) (Fk:∀ b∈fa,b<w.heap.size/\¬ S b/\∀ k,k<sh.length->B k≠b) (hB:∀ k,k<sh.length->B k<w.heap.size/\¬ S (B k))
  (Gd:∀ j k,j<sh.length->k<sh.length->B j=B k->j=k) (ha:aT (Ta P w T (BX sh.length B fa) B) args b9):a0a P f sh res dI w S B b9 fa:=by
 refine (h w T B b9 fa hT (Ws.flat Yy) TD (λ b hb=>⟨(Fk b hb).1,hX b (.inl hb),(Fk b hb).2.2⟩) (λ k hk=>⟨(hB k hk).1,hX _ (.inr ⟨k,hk,rfl⟩)⟩) Gd ha).mono ?_;rintro e w' ⟨x,S',fp,KU,rfl,hk,hS1,hS2,hS3,hO,hB',cR,jM,hBS⟩;refine⟨x,λ b=>S' b/\(T b->S b),fp,KU,rfl,hk,λ b hb=>⟨hS1 b (hST b hb),λ _=>hb⟩,λ b hb=>hS2 b hb.1,λ b hb hx=>?_,hO,hB'.flat Yy,cR,λ b hb=>⟨(jM b hb).1,λ q=>(jM b hb).2.1 q.1,(jM b hb).2.2⟩,λ k hk q=>hBS k hk q.1⟩;have:=hS3 b hb hx;exact⟨λ q=>q.2 (this.1 q.1),λ q=>⟨this.2 (hST b q),λ _=>q⟩⟩
theorem Q7{sh:List (List CK)}{lk:Nat->Option aB}{ids:List Nat}{id:Nat}{o:aB}(h:sLk sh lk ids id=some o):lk id=some o/\id∉ids:=by
 unfold sLk at h;split at h
 .split at h
  .cases h
  .rename_i hc;exact⟨h,by simpa using hc⟩
 .obtain⟨h1,h2,_⟩:=xy h;exact⟨h1,h2⟩
theorem XU(h1:Inv c G s a w){S1 X:Nat->Prop}{lk':Nat->Option aB}(ct:∀ id o,lk' id=some o->s.ah id=some o)(ib:∀ (τ:Ty) v x (y:τ.den),Ae lk' τ v=some y->VR c G s.ah w v x->dV w S1 ⟨τ,y⟩ x)
  (wB:∀ b,X b->¬ St c G.S b) (l6:∀ id o b,lk' id=some o->ef (G.η id)=some b->¬ X b) {τ:Ty} {v:AV} {x:Value} {y:τ.den} (hy:deref lk' τ v=some y) (hx:VR c G s.ah w v x) :
  ∃ b o cs,x = .pointer (some ⟨b,o,none⟩)/\b<w.heap.size/\¬ X b/\cf w b o cs/\Rd w S1 (τ.aP y) cs:=by
 obtain⟨b,o,cs,k1,k2,k3,k4⟩:=Iu (S:=S1) h1 ct ib hy hx;refine⟨b,o,cs,k1,k2,?_,k3,k4⟩;unfold deref at hy;split at hy;case h_2=>cases hy
 case h_1 u hu =>
 cases v with
 | cX z =>
  obtain⟨b',o',dE,q1,q2,_⟩:=hx;rw[k1] at q1;simp only[b7k,b4L,b6A] at q1;obtain⟨rfl,_⟩:=q1;exact λ hb=>wB _ hb q2
 | ptr id off =>
  obtain⟨b',q1,q2,_⟩:=hx;rw[k1] at q2;simp only[b7k,b4L,b6A] at q2;obtain⟨rfl,_⟩:=q2;simp only[s9] at hu;split at hu
  .rename_i cs2 kj;exact l6 id _ _ kj (by rw[q1];rfl)
  .cases hu
 | eH id i off =>
  obtain⟨b',n',Tt,e',bf,cS,q1,q2,q3,q4⟩:=hx;rw[k1] at q4;simp only[b7k,b4L,b6A] at q4;obtain⟨rfl,_⟩:=q4;simp only[s9] at hu;split at hu
  .rename_i hr;exact l6 id _ _ hr (by rw[q1];rfl)
  .cases hu
 | _=>simp[s9] at hu
theorem Io(h1:Inv c G s a w){S1 X:Nat->Prop}{lk':Nat->Option aB}(ct:∀ id o,lk' id=some o->s.ah id=some o)(ib:∀ (τ:Ty) v x (y:τ.den),Ae lk' τ v=some y->VR c G s.ah w v x->dV w S1 ⟨τ,y⟩ x)
  (wB:∀ b,X b->¬ St c G.S b) (l6:∀ id o b,lk' id=some o->ef (G.η id)=some b->¬ X b):∀ {ks:List (Bool×Ty)} {vs:List AV} {Z9:List Arg} {xs:List Value},qa lk' ks vs=some Z9->aT (CR c G s.ah w) vs xs->aT (b0p w S1 X) Z9 xs
 | [],[],Z9,xs,h,hv=>by
  simp only[qa,b4L] at h;subst h;match xs,hv with
  | [],_=>trivial
 | (true,τ)::ks,v::vs,Z9,xs,h,hv=>by
  simp only[qa] at h;split at h
  .rename_i y hy;split at h
   .rename_i r hr;simp only[b4L] at h;subst h;match xs,hv with
    | x::xs,hv=>exact⟨XU h1 ct ib wB l6 hy hv.1.fU,Io h1 ct ib wB l6 hr hv.2⟩
   .cases h
  .cases h
 | (false,τ)::ks,v::vs,Z9,xs,h,hv=>by
  simp only[qa] at h;split at h
  .rename_i y hy;split at h
   .rename_i r hr;simp only[b4L] at h;subst h;match xs,hv with
    | x::xs,hv=>exact⟨ib _ _ _ _ hy hv.1.fU,Io h1 ct ib wB l6 hr hv.2⟩
   .cases h
  .cases h
 | [],_::_,_,_,h,_=>by cases h
 | (true,_)::_,[],_,_,h,_=>by cases h
 | (false,_)::_,[],_,_,h,_=>by cases h
theorem a3u(hE:bF c.P c.E)(h1:Inv c G s a w){S1 X:Nat->Prop}(Uj:∀ b,G.S b->S1 b){lk':Nat->Option aB}(ct:∀ id o,lk' id=some o->s.ah id=some o)(ib:∀ (τ:Ty) v x (y:τ.den),Ae lk' τ v=some y->VR c G s.ah w v x->dV w S1 ⟨τ,y⟩ x)
  (wB:∀ b,X b->¬ St c G.S b) (l6:∀ id o b,lk' id=some o->ef (G.η id)=some b->¬ X b) {g:AV} {x:Value} {q:FV} {B:Nat->Nat} (h:E3 c.E lk' g=some q) (hx:VR c G s.ah w g x):Ta c.P w S1 X B (.dc q) x:=by
 unfold E3 at h;split at h
 .rename_i f cs;split at h
  .rename_i k _;split at h
   .rename_i Z9 has;simp only[b4L] at h;subst h;obtain⟨l,k1,k2⟩:=hx;exact⟨f,Z9,l,k1,xY hE _ _ _,Io h1 ct ib wB l6 has k2⟩
   .cases h
  .cases h
 .simp only[b4L] at h;subst h;obtain⟨f,eE,l,k1,k2,k3⟩:=hx;refine⟨f,eE,l,k1,k2,k3.imp λ u y _ hy=>?_⟩;cases u with
  | val v=>exact dV.mono (G:=G) (G':=⟨S1,G.η,G.φ⟩) hy Uj (λ _ _=>rfl)
  | ref v =>
   obtain⟨b,o,cs,k1,k2,k3,k4⟩:=hy;refine⟨b,o,cs,k1,?_,λ hb=>wB b hb k2,k3,Rd.aR Uj (λ _ _=>rfl) _ k4⟩;exact k2.elim (h1.dB b) λ k=>b5i k.1 h1.aR.size
  | fn f=>exact hy
  | _=>exact hy.elim
 .rename_i f;split at h
  .rename_i k _;split at h
   .simp only[b4L] at h;subst h;exact⟨f,[],[],hx,xY hE _ _ _,ae⟩
   .cases h
  .cases h
 .cases h
theorem uq(hE:bF c.P c.E)(h1:Inv c G s a w){mf:List (Nat×Nat)}{S1 X:Nat->Prop}(Uj:∀ b,G.S b->S1 b){lk':Nat->Option aB}(ct:∀ id o,lk' id=some o->s.ah id=some o)
  (ib:∀ (τ:Ty) v x (y:τ.den),Ae lk' τ v=some y->VR c G s.ah w v x->dV w S1 ⟨τ,y⟩ x) (wB:∀ b,X b->¬ St c G.S b) (l6:∀ id o b,lk' id=some o->ef (G.η id)=some b->¬ X b) {lk0:Nat->Option aB} :
  ∀ {fl:List (Option Nat)} {Ts:List TypeId} {vs vs0:List AV} {xs:List Value} {Z9:List Arg},rb c.E lk' fl Ts vs=some Z9->aT (VR c G s.ah w) vs xs->aT (VR c G lk0 w) vs0 xs ->
   (∀ (i k:Nat),fl[i]?=some (some k)->∃ id,vs0[i]?=some (AV.ptr id 0)/\ah mf k=some id)->aT (Ta c.P w S1 X (kJ G mf)) Z9 xs
 | [],[],[],vs0,xs,Z9,h,hv,_,_=>by
  simp only[rb,b4L] at h;subst h;match xs,hv with
  | [],_=>trivial
 | some k::fl,T::Ts,v::vs,vs0,xs,Z9,h,hv,Qk,hb=>by
  simp only[rb] at h;split at h;case h_2=>cases h
  case h_1 r hr =>
  simp only[b4L] at h;subst h;match xs,vs0,hv,Qk with
  | x::xs,v0::vs0,hv,Qk =>
   obtain⟨id,q1,q2⟩:=hb 0 k rfl;simp only[List.getElem?_cons_zero,Option.some.injEq] at q1;subst q1;have hp:VR c G lk0 w (.ptr id 0) x:=Qk.1;obtain⟨b,k1,k2,_⟩:=hp;refine⟨?_,uq hE h1 Uj ct ib wB l6 hr hv.2 Qk.2 λ i k' q=>by simpa using hb (i+1) k' (by simpa using q)⟩;show x = .pointer (some ⟨kJ G mf k,0,none⟩);simp only[kJ,q2,k1];exact k2
  | x::xs,[],_,Qk=>exact Qk.elim
 | none::fl,T::Ts,v::vs,vs0,xs,Z9,h,hv,Qk,hb=>by
  simp only[rb] at h;split at h;case h_2=>cases h
  case h_1 z hz =>
  split at h;case h_2=>cases h
  case h_1 r hr =>
  simp only[b4L] at h;subst h;match xs,vs0,hv,Qk with
  | x::xs,v0::vs0,hv,Qk =>
   refine⟨?_,uq hE h1 Uj ct ib wB l6 hr hv.2 Qk.2 λ i k' q=>by simpa using hb (i+1) k' (by simpa using q)⟩;unfold VK at hz;split at hz
   .rename_i τ q hT;split at hz
    .rename_i y hy;simp only[b4L] at hz;subst hz;exact ib _ _ _ _ hy hv.1
    .cases hz
   .split at hz
    .rename_i τ hT;split at hz
     .rename_i y hy;simp only[b4L] at hz;subst hz;exact XU h1 ct ib wB l6 hy hv.1
     .cases hz
    .split at hz
     .rename_i q hq;simp only[b4L] at hz;subst hz;exact a3u hE h1 Uj ct ib wB l6 hq hv.1
     .split at hz
      .rename_i f;simp only[b4L] at hz;subst hz;exact hv.1
      .cases hz
  | x::xs,[],_,Qk=>exact Qk.elim
 | [],_::_,_,_,_,_,h,_,_,_=>by simp[rb] at h
 | [],[],_::_,_,_,_,h,_,_,_=>by simp[rb] at h
 | some _::_,[],_,_,_,_,h,_,_,_=>by simp[rb] at h
 | none::_,[],_,_,_,_,h,_,_,_=>by simp[rb] at h
 | some _::_,_::_,[],_,_,_,h,_,_,_=>by simp[rb] at h
 | none::_,_::_,[],_,_,_,h,_,_,_=>by simp[rb] at h
def dG:List CK->List TV->List TV
 | .d _::ks,_::ds=>dG ks ds
 | .o _::ks,v::ds=>v::dG ks ds
 | .p _::ks,ds=>dG ks ds
 | _,_=>[]
def lp:List CK->List Value->List Value
 | .o _::ks,x::xs=>x::lp ks xs
 | _::ks,_::xs=>lp ks xs
 | _,_=>[]
theorem jg.wX{S:Nat->Prop}{B:Nat->Nat}:∀ {ks:List CK} {ds:List TV} {l:List Value} {fp:List Nat},jg w S B ks ds l fp->cT w ((dG ks ds).map TV.aP) (lp ks l) fp/\(∀ u∈dG ks ds,u.τ.agg=false)/\(dG ks ds).length=(lp ks l).length
 | [],[],[],fp,h=>⟨⟨rfl,h⟩,by simp[dG],rfl⟩
 | .d τ::ks,v::ds,x::xs,fp,h=>by
  obtain⟨_,h2⟩:=h;obtain⟨k1,k2,k3⟩:=jg.wX h2;exact⟨k1,k2,k3⟩
 | .o τ::ks,v::ds,x::xs,fp,h=>by
  obtain⟨f1,f2,rfl,⟨e,h1,h2⟩,h3⟩:=h;obtain⟨k1,k2,k3⟩:=jg.wX h3;refine⟨⟨x,lp ks xs,f1,f2,rfl,rfl,h2,k1⟩,λ u hu=>?_,by simp[dG,lp,k3]⟩;rcases b5h.1 hu with rfl|hu
  .rw[e];exact h1
  .exact k2 u hu
 | .p j::ks,ds,x::xs,fp,h=>by
  have h:x = .pointer (some ⟨B j,0,none⟩)/\jg w S B ks ds xs fp:=by cases ds<;>exact h
  obtain⟨k1,k2,k3⟩:=jg.wX h.2;refine⟨?_,?_,?_⟩<;>cases ds<;>first|exact k1|exact k2|exact k3
 | [],_::_,_,_,h=>h.elim
 | [],[],_::_,_,h=>h.elim
 | .d _::_,[],_,_,h=>by cases h
 | .o _::_,[],_,_,h=>by cases h
 | .d _::_,_::_,[],_,h=>by cases h
 | .o _::_,_::_,[],_,h=>by cases h
 | .p _::_,ds,[],_,h=>by cases ds<;>cases h
theorem G9:∀ (n:Nat) (a b:List TV),bX n (a++b)=bX n a++bX (n+a.length) b
 | n,[],b=>by simp[bX]
 | n,u::a,b=>by
  have:=G9 (n+1) a b;simp only[b6g,bX,this,b5O,b4Y];rw[show n+1+a.length=n+(a.length+1) by omega]
theorem sQ:∀ (n:Nat) (a b:List TV),cb n (a++b)=cb n a++cb (n+a.length) b
 | n,[],b=>by simp[cb]
 | n,u::a,b=>by
  have:=sQ (n+1) a b;simp only[b6g,cb,this,b4Y];rw[show n+1+a.length=n+(a.length+1) by omega]
theorem cT.append:∀ {a b:List D} {x y:List Value} {f g:List Nat},cT w a x f->cT w b y g->cT w (a++b) (x++y) (f++g)
 | [],b,x,y,f,g,h,k=>by
  obtain⟨rfl,rfl⟩:=h;exact k
 | d::a,b,x,y,f,g,h,k=>by
  obtain⟨v,r,f1,f2,rfl,rfl,h3,h4⟩:=h;exact⟨v,r++y,f1,f2++g,rfl,by simp,h3,h4.append k⟩
theorem qY{m:List (Nat×Nat)}{S:Nat->Prop}{B:Nat->Nat}{G':Gh}{lk':Nat->Option aB}(hS:∀ b,S b->G'.S b)(hB:∀ j id,ah m j=some id->G'.η id = .pointer (some ⟨B j,0,none⟩)/\gi (lk' id)=true) :
  ∀ {ks:List CK} {cs:List AV} {ds:List TV} {n n':Nat} {r:List AV} {os:List (Nat×aB)} {l:List Value} {fp:List Nat},cn m ks cs ds n=some (r,os,n')->jg w S B ks ds l fp->aT (C1 c G' lk' w) (cb n (dG ks ds)) (lp ks l) ->
   aT (C1 c G' lk' w) r l
 | [],[],[],n,n',r,os,l,fp,h,hb,hc=>by
  simp only[cn,b4L,b4P] at h;obtain⟨rfl,rfl,rfl⟩:=h;match l,hb with
  | [],_=>trivial
 | .d τ::ks,c0::cs,v::ds,n,n',r,os,l,fp,h,hb,hc=>by
  simp only[cn] at h;split at h;case h_2=>cases h
  case h_1 hv =>
  split at h;case h_2=>cases h
  case h_1 r1 os1 n1 hr =>
  simp only[b4L,b4P] at h;obtain⟨rfl,rfl,rfl⟩:=h;match l,hb with
  | x::l,hb =>
   obtain⟨⟨e,h1,h2⟩,h3⟩:=hb;exact⟨⟨by rw[e];exact h1,Rd.aR hS (λ _ _=>rfl) _ h2⟩,qY hS hB hr h3 hc⟩
 | .o τ::ks,c0::cs,v::ds,n,n',r,os,l,fp,h,hb,hc=>by
  simp only[cn] at h;split at h;case h_2=>cases h
  case h_1 hv =>
  split at h;case h_2=>cases h
  case h_1 r1 os1 n1 hr =>
  simp only[b4L,b4P] at h;obtain⟨rfl,rfl,rfl⟩:=h;match l,hb with
  | x::l,hb =>
   obtain⟨f1,f2,rfl,⟨e,h1,h2⟩,h3⟩:=hb;exact⟨hc.1,qY hS hB hr h3 hc.2⟩
 | .p j::ks,c0::cs,ds,n,n',r,os,l,fp,h,hb,hc=>by
  simp only[cn] at h;split at h;case h_2=>cases h
  case h_1 id =>
  split at h;case h_2=>cases h
  case h_1 i hi =>
  split at h;case h_2=>cases h
  case h_1 r1 os1 n1 hbe hr =>
  have hbe:=b4O hbe;subst hbe;simp only[b4L,b4P] at h;obtain⟨rfl,rfl,rfl⟩:=h;match l,hb with
  | x::l,hb =>
   have hb:x = .pointer (some ⟨B j,0,none⟩)/\jg w S B ks ds l fp:=by cases ds<;>exact hb
   have hc:aT (C1 c G' lk' w) (cb n (dG ks ds)) (lp ks l):=by cases ds<;>exact hc
   obtain⟨q1,q2⟩:=hB j i hi;exact⟨⟨B j,q1,hb.1,q2⟩,qY hS hB hr hb.2 hc⟩
  | [],hb=>cases ds<;>cases hb
 | [],_::_,_,_,_,_,_,_,_,h,_,_=>by simp[cn] at h
 | [],[],_::_,_,_,_,_,_,_,h,_,_=>by simp[cn] at h
 | .d _::_,[],_,_,_,_,_,_,_,h,_,_=>by simp[cn] at h
 | .o _::_,[],_,_,_,_,_,_,_,h,_,_=>by simp[cn] at h
 | .p _::_,[],ds,_,_,_,_,_,_,h,_,_=>by cases ds<;>simp[cn] at h
 | .d _::_,_::_,[],_,_,_,_,_,_,h,_,_=>by simp[cn] at h
 | .o _::_,_::_,[],_,_,_,_,_,_,h,_,_=>by simp[cn] at h
theorem xm{m:List (Nat×Nat)}:∀ {ks:List CK} {cs:List AV} {ds:List TV} {n n':Nat} {r:List AV} {os:List (Nat×aB)},cn m ks cs ds n=some (r,os,n')->os=bX n (dG ks ds)/\n'=n+(dG ks ds).length
 | [],[],[],n,n',r,os,h=>by
  simp only[cn,b4L,b4P] at h;obtain⟨rfl,rfl,rfl⟩:=h;exact⟨rfl,rfl⟩
 | .d τ::ks,c0::cs,v::ds,n,n',r,os,h=>by
  simp only[cn] at h;split at h;case h_2=>cases h
  case h_1 hv =>
  split at h;case h_2=>cases h
  case h_1 r1 os1 n1 hr =>
  simp only[b4L,b4P] at h;obtain⟨rfl,rfl,rfl⟩:=h;obtain⟨e1,e2⟩:=xm hr;exact⟨e1,e2⟩
 | .o τ::ks,c0::cs,v::ds,n,n',r,os,h=>by
  simp only[cn] at h;split at h;case h_2=>cases h
  case h_1 hv =>
  split at h;case h_2=>cases h
  case h_1 r1 os1 n1 hr =>
  simp only[b4L,b4P] at h;obtain⟨rfl,rfl,rfl⟩:=h;obtain⟨e1,e2⟩:=xm hr;exact⟨by rw[e1];rfl,by rw[e2];simp[dG];omega⟩
 | .p j::ks,c0::cs,ds,n,n',r,os,h=>by
  simp only[cn] at h;split at h;case h_2=>cases h
  case h_1 id =>
  split at h;case h_2=>cases h
  case h_1 i hi =>
  split at h;case h_2=>cases h
  case h_1 r1 os1 n1 hbe hr =>
  simp only[b4L,b4P] at h;obtain⟨rfl,rfl,rfl⟩:=h;obtain⟨e1,e2⟩:=xm hr;cases ds<;>exact⟨e1,e2⟩
 | [],_::_,_,_,_,_,_,h=>by simp[cn] at h
 | [],[],_::_,_,_,_,_,h=>by simp[cn] at h
 | .d _::_,[],_,_,_,_,_,h=>by simp[cn] at h
 | .o _::_,[],_,_,_,_,_,h=>by simp[cn] at h
 | .p _::_,[],ds,_,_,_,_,h=>by cases ds<;>simp[cn] at h
 | .d _::_,_::_,[],_,_,_,_,h=>by simp[cn] at h
 | .o _::_,_::_,[],_,_,_,_,h=>by simp[cn] at h
theorem Inv.a9q{s1:aj}(h1:Inv c G s1 a w){S' X:Nat->Prop}{Je:Nat->Option aB}(hk:bD X w w')(hX:∀ b,X b->c.w0.heap.size<=b\/c.X b)(hXS:∀ b,X b->¬ G.S b)
  (hS:∀ b,G.S b->S' b) (a1R:∀ b,S' b->b<w'.heap.size) (a3I:∀ b,b<w.heap.size->¬ X b->(S' b↔G.S b))
  (lF:∀ id,(Je id=s1.ah id/\∀ o b,s1.ah id=some o->ef (G.η id)=some b->¬ X b) \/
   ∃ cs dE,s1.ah id=some (.box cs)/\Je id=some (.box dE)/\(∀ b,ef (G.η id)=some b->¬ S' b)/\∃ b l t,G.η id = .pointer (some ⟨b,0,none⟩)/\w'.heap[b]?=some (.cells l.toArray t (0,0))/\∀ (G:Gh) (lk:Nat->Option aB),aT (C1 c G lk w') dE l)
  (Hx:∀ id τ xs b,s1.ah id=some (.av τ xs)->b∈G.φ id->¬ X b):bw c ⟨S',G.η,G.φ⟩ s1.sl s1.aC.length Je a w':=by
 have eU:∀ id,eK (s1.ah id) (Je id):=λ id=>by
  rcases lF id with ⟨e,_⟩|⟨cs,dE,e1,e2,_⟩
  .rw[e];exact eK.refl _
  .rw[e1,e2];exact⟨λ _=>rfl,(λ e τ xs q=>by cases q),(λ q=>by cases q),λ q=>by cases q⟩
 have cw:∀ b,St c G.S b->w'.heap[b]?=w.heap[b]?:=λ b hb=>by
  rcases hb with hb|hb
  .exact hk.block b (h1.dB b hb) λ q=>hXS b q hb
  .exact hk.block b (b5i hb.1 h1.aR.size) λ q=>(hX b q).elim (λ q=>by omega) hb.2.1
 have hold:∀ id o,Je id=some o->∃ o',s1.ah id=some o'/\(∀ τ xs,o = .av τ xs->o' = .av τ xs):=λ id o ho=>by
  rcases lF id with ⟨e,_⟩|⟨cs,dE,e1,e2,_⟩
  .exact⟨o,by rw[<-e];exact ho,λ τ xs q=>q⟩
  .rw[e2] at ho;simp only[b4L] at ho;exact⟨_,e1,λ τ xs q=>by rw[q] at ho;cases ho⟩
 have Hw:∀ id τ xs,Je id=some (.av τ xs)->s1.ah id=some (.av τ xs):=λ id τ xs ht=>by
  obtain⟨o',q1,q2⟩:=hold id _ ht;rw[q1,q2 τ xs rfl]
 exact {
  defers:=h1.defers,size:=h1.size
  aR:=h1.aR.trans hk λ i hi hy=>(hX i hy).elim (λ q=>by omega) id
  jf:=h1.jf
  dT:=λ b hb hx=>(a3I b (b5i hb h1.aR.size) λ q=>(hX b q).elim (λ q=>by omega) hx).trans (h1.dT b hb hx)
  sX:=λ b hb=>hS b (h1.sX b hb)
  dB:=a1R
  aC:=λ i=>(h1.aC i).mono (λ id _=>⟨eU id,rfl⟩) hS cw
  aJ:=λ id o ho=>by
   rcases lF id with ⟨e,e'⟩|⟨cs,dE,e1,e2,_,b,l,t,e3,e4,e5⟩
   .rw[e] at ho;exact (h1.aJ id o ho).mono rfl (λ b hb=>hk.block b (h1.place id o b ho hb).2.2 (e' o b ho hb)) (λ j _=>⟨eU j,rfl⟩) hS cw
   .rw[e2] at ho;simp only[b4L] at ho;subst ho;exact⟨b,l,t,e3,e4,e5 _ _⟩
  place:=λ id o b ho hb=>by
   obtain⟨o',q1,_⟩:=hold id o ho;obtain⟨p1,p2,p3⟩:=h1.place id o' b q1 hb;refine⟨p1,?_,b5i p3 hk.size⟩;rcases lF id with ⟨e,e'⟩|⟨cs,dE,e1,e2,e3,_⟩
   .exact λ q=>p2 ((a3I b p3 (e' o' b q1 hb)).1 q)
   .exact e3 b hb
  apart:=λ id dy o o' b ho cP hb cA=>by
   obtain⟨p,q1,_⟩:=hold id o ho;obtain⟨p',q2,_⟩:=hold dy o' cP;exact h1.apart id dy p p' b q1 q2 hb cA
  aL:={
   tr:=λ id τ xs ht=>(h1.aL.tr id τ xs (Hw id τ xs ht)).aR λ b hb=>hk.block b (h1.aL.pl id τ xs b (Hw id τ xs ht) hb).2.2.1 (Hx id τ xs b (Hw id τ xs ht) hb)
   nd:=λ id τ xs ht=>h1.aL.nd id τ xs (Hw id τ xs ht)
   pl:=λ id τ xs b ht hb=>by
    obtain⟨p1,p2,p3,p4⟩:=h1.aL.pl id τ xs b (Hw id τ xs ht) hb;refine⟨p1,λ q=>p2 ((a3I b p3 (Hx id τ xs b (Hw id τ xs ht) hb)).1 q),b5i p3 hk.size,λ i o ho=>?_⟩;obtain⟨o',q1,_⟩:=hold i o ho;exact p4 i o' q1
   ap:=λ id dy τ bf xs cS b ht Up=>h1.aL.ap id dy τ bf xs cS b (Hw id τ xs ht) (Hw dy bf cS Up) }
  root:=λ id v hr ht=>h1.root id v hr (by
   match hl:Je id,ht with
   | some (.av τ xs),_=>rw[Hw id τ xs hl];rfl)
  ic:=h1.ic
  dm:=λ id v hr ht=>h1.dm id v hr (by
   rcases lF id with ⟨e,_⟩|⟨cs,dE,e1,e2,_⟩
   .rw[<-e];exact ht
   .rw[e1];rfl)
  eN:=h1.eN }
theorem bw.b3Q{sl:Nat->AV}{n:Nat}{lk lk2:Nat->Option aB}(h:bw c G sl n lk a w)(lF:∀ id,lk2 id=lk id\/∃ cs dE,lk id=some (.box cs)/\lk2 id=some (.box dE)/\∃ b l t,G.η id = .pointer (some ⟨b,0,none⟩)/\w.heap[b]?=some (.cells l.toArray t (0,0))/\aT (C1 c G lk2 w) dE l) :
  bw c G sl n lk2 a w:=by
 have eU:∀ id,eK (lk id) (lk2 id):=λ id=>by
  rcases lF id with e|⟨cs,dE,e1,e2,_⟩
  .rw[e];exact eK.refl _
  .rw[e1,e2];exact⟨λ _=>rfl,(λ e τ xs q=>by cases q),(λ q=>by cases q),λ q=>by cases q⟩
 have hold:∀ id o,lk2 id=some o->∃ o',lk id=some o'/\(∀ τ xs,o = .av τ xs->o' = .av τ xs):=λ id o ho=>by
  rcases lF id with e|⟨cs,dE,e1,e2,_⟩
  .exact⟨o,by rw[<-e];exact ho,λ τ xs q=>q⟩
  .rw[e2] at ho;simp only[b4L] at ho;exact⟨_,e1,λ τ xs q=>by rw[q] at ho;cases ho⟩
 have Hw:∀ id τ xs,lk2 id=some (.av τ xs)->lk id=some (.av τ xs):=λ id τ xs ht=>by
  obtain⟨o',q1,q2⟩:=hold id _ ht;rw[q1,q2 τ xs rfl]
 exact {
  defers:=h.defers,size:=h.size,aR:=h.aR,jf:=h.jf,dT:=h.dT,sX:=h.sX,dB:=h.dB
  aC:=λ i=>(h.aC i).mono (λ id _=>⟨eU id,rfl⟩) (λ _ q=>q) (λ _ _=>rfl)
  aJ:=λ id o ho=>by
   rcases lF id with e|⟨cs,dE,e1,e2,b,l,t,e3,e4,e5⟩
   .rw[e] at ho;exact (h.aJ id o ho).mono rfl (λ _ _=>rfl) (λ j _=>⟨eU j,rfl⟩) (λ _ q=>q) (λ _ _=>rfl)
   .rw[e2] at ho;simp only[b4L] at ho;subst ho;exact⟨b,l,t,e3,e4,e5⟩
  place:=λ id o b ho hb=>by
   obtain⟨o',q1,_⟩:=hold id o ho;exact h.place id o' b q1 hb
  apart:=λ id dy o o' b ho cP hb cA=>by
   obtain⟨p,q1,_⟩:=hold id o ho;obtain⟨p',q2,_⟩:=hold dy o' cP;exact h.apart id dy p p' b q1 q2 hb cA
  aL:={
   tr:=λ id τ xs ht=>h.aL.tr id τ xs (Hw id τ xs ht)
   nd:=λ id τ xs ht=>h.aL.nd id τ xs (Hw id τ xs ht)
   pl:=λ id τ xs b ht hb=>by
    obtain⟨p1,p2,p3,p4⟩:=h.aL.pl id τ xs b (Hw id τ xs ht) hb;refine⟨p1,p2,p3,λ i o ho=>?_⟩;obtain⟨o',q1,_⟩:=hold i o ho;exact p4 i o' q1
   ap:=λ id dy τ bf xs cS b ht Up=>h.aL.ap id dy τ bf xs cS b (Hw id τ xs ht) (Hw dy bf cS Up) }
  root:=λ id v hr ht=>h.root id v hr (by
   match hl:lk2 id,ht with
   | some (.av τ xs),_=>rw[Hw id τ xs hl];rfl)
  ic:=h.ic
  dm:=λ id v hr ht=>h.dm id v hr (by
   rcases lF id with e|⟨cs,dE,e1,e2,_⟩
   .rw[<-e];exact ht
   .rw[e1];rfl)
  eN:=h.eN }
theorem JA{m:List (Nat×Nat)}{S:Nat->Prop}{B:Nat->Nat}{lk:Nat->Option aB}:∀ {sh:List (List CK)} {k:Nat} {bN:List (List TV)} {n:Nat} {bs ts:List (Nat×aB)} {fp:List Nat},sN lk m sh k bN n=some (bs,ts)->fF w S B k sh bN fp ->
  ∃ wX xs,ts=bX n wX/\cT w (wX.map TV.aP) xs fp/\(∀ u∈wX,u.τ.agg=false) /\
   (∀ j,k<=j->j<k+sh.length->∃ (id:Nat) (dE:List AV) (l:List Value) (t:TypeId),ah m j=some id/\(id,aB.box dE)∈bs/\w.heap[B j]?=some (.cells l.toArray t (0,0))/\l.length=dE.length) /\
   (∀ p∈bs,∃ (j:Nat) (dE:List AV) (l:List Value) (t:TypeId),k<=j/\j<k+sh.length/\ah m j=some p.1/\p.2 = .box dE/\w.heap[B j]?=some (.cells l.toArray t (0,0))/\l.length=dE.length /\
    ∀ (G':Gh) (lk':Nat->Option aB),(∀ b,S b->G'.S b)->(∀ j id,ah m j=some id->G'.η id = .pointer (some ⟨B j,0,none⟩)/\gi (lk' id)=true)->aT (C1 c G' lk' w) (cb n wX) xs->aT (C1 c G' lk' w) dE l)
 | [],k,[],n,bs,ts,fp,h,hb=>by
  simp only[sN,b4L,b4P] at h;obtain⟨rfl,rfl⟩:=h;exact⟨[],[],rfl,⟨rfl,hb⟩,by simp,λ j h1 h2=>by simp at h2;omega,by simp⟩
 | ks::sh,k,ds::bN,n,bs,ts,fp,h,hb=>by
  simp only[sN] at h;split at h;case h_2=>cases h
  case h_1 id aY =>
  split at h;case h_2=>cases h
  case h_1 cs kj =>
  split at h;case h_2=>cases h
  case h_1 r os n1 hr =>
  split at h;case h_2=>cases h
  case h_1 bs1 ts1 hr2 =>
  simp only[b4L,b4P] at h;obtain⟨rfl,rfl⟩:=h;obtain⟨l,t,f1,f2,rfl,hw,hB,hbs⟩:=hb;obtain⟨e1,e2⟩:=xm hr;obtain⟨wX,xs,q1,q2,q3,q4,q5⟩:=JA hr2 hbs;obtain⟨o1,o2,o3⟩:=hB.wX;have sZ:∀ {G':Gh} {lk':Nat->Option aB},aT (C1 c G' lk' w) (cb n (dG ks ds++wX)) (lp ks l++xs)->aT (C1 c G' lk' w) (cb n (dG ks ds)) (lp ks l)/\aT (C1 c G' lk' w) (cb n1 wX) xs:=λ {G' lk'} q=>by
   rw[sQ,<-e2] at q;have hl:(cb n (dG ks ds)).length=(lp ks l).length:=by
    rw[<-o3];have:∀ (us:List TV) (n:Nat),(cb n us).length=us.length:=λ us=>by
     induction us with
     | nil=>intro n;rfl
     | cons u us ih=>intro n;simp[cb,ih]
    exact this _ _
   have h1:=q.take (cb n (dG ks ds)).length;have h2:=q.drop (cb n (dG ks ds)).length;rw[b7c,hl,b7c] at h1;rw[b7i,hl,b7i] at h2;exact⟨h1,h2⟩
  have hrl:l.length=r.length:=by
   have:∀ {ks:List CK} {cs:List AV} {ds:List TV} {n n':Nat} {r:List AV} {os:List (Nat×aB)} {l:List Value} {fp:List Nat},cn m ks cs ds n=some (r,os,n')->jg w S B ks ds l fp->l.length=r.length:=by
    intro ks;induction ks with
    | nil =>
     intro cs ds n n' r os l fp h hb;cases cs<;>cases ds<;>simp[cn] at h;obtain⟨rfl,_⟩:=h;cases l with
     | nil=>rfl
     | cons x l=>cases hb
    | cons k0 ks ih =>
     intro cs ds n n' r os l fp h hb;cases l with
     | nil=>cases k0<;>cases ds<;>cases hb
     | cons x l =>
      cases k0 with
      | d τ =>
       cases cs with
       | nil=>simp[cn] at h
       | cons c0 cs =>
        cases ds with
        | nil=>cases hb
        | cons v ds =>
         simp only[cn] at h;split at h;case h_2=>cases h
         case h_1 hv =>
         split at h;case h_2=>cases h
         case h_1 r1 os1 n1 hr =>
         simp only[b4L,b4P] at h;obtain⟨rfl,rfl,rfl⟩:=h;obtain⟨_,h2⟩:=hb;simp[ih hr h2]
      | o τ =>
       cases cs with
       | nil=>simp[cn] at h
       | cons c0 cs =>
        cases ds with
        | nil=>cases hb
        | cons v ds =>
         simp only[cn] at h;split at h;case h_2=>cases h
         case h_1 hv =>
         split at h;case h_2=>cases h
         case h_1 r1 os1 n1 hr =>
         simp only[b4L,b4P] at h;obtain⟨rfl,rfl,rfl⟩:=h;obtain⟨_,_,_,_,h2⟩:=hb;simp[ih hr h2]
      | p j =>
       cases cs with
       | nil=>cases ds<;>simp[cn] at h
       | cons c0 cs =>
        have hb:x = .pointer (some ⟨B j,0,none⟩)/\jg w S B ks ds l fp:=by cases ds<;>exact hb
        simp only[cn] at h;split at h;case h_2=>cases h
        case h_1 id =>
        split at h;case h_2=>cases h
        case h_1 i hi =>
        split at h;case h_2=>cases h
        case h_1 r1 os1 n1 hbe hr =>
        simp only[b4L,b4P] at h;obtain⟨rfl,rfl,rfl⟩:=h;simp[ih hr hb.2]
   exact this hr hB
  refine⟨dG ks ds++wX,lp ks l++xs,by rw[G9,e1,q1,e2],by rw[b6F];exact o1.append q2,λ u hu=>(b4Q.1 hu).elim (o2 u) (q3 u),λ j h1 h2=>?_,λ p hp=>?_⟩
  .by_cases hj:j=k
   .subst hj;exact⟨id,r,l,t,aY,b7p ..,hw,hrl⟩
   .obtain⟨dy,dE,l',t',g1,g2,g3,g4⟩:=q4 j (by omega) (by simp at h2;omega);exact⟨dy,dE,l',t',g1,b6l _ g2,g3,g4⟩
  .rcases b5h.1 hp with rfl|hp
   .exact⟨k,r,l,t,b5w _,by simp,aY,rfl,hw,hrl,λ G' lk' h1 h2 h3=>qY h1 h2 hr hB (sZ h3).1⟩
   .obtain⟨j,dE,l',t',g1,g2,g3,g4,g5,g7,g6⟩:=q5 p hp;exact⟨j,dE,l',t',by omega,by simp;omega,g3,g4,g5,g7,λ G' lk' h1 h2 h3=>g6 G' lk' h1 h2 (sZ h3).2⟩
 | [],_,_::_,_,_,_,_,h,_=>by simp[sN] at h
 | _::_,_,[],_,_,_,_,h,_=>by simp[sN] at h
theorem ud{α:Type}:∀ {l:List (Nat×α)} {k:Nat},(∀ p∈l,p.1≠k)->ah l k=none
 | [],k,_=>rfl
 | (j,o)::l,k,h=>by
  rw[pG,b4Z (λ e=>h (j,o) (by simp) e.symm)];exact ud λ p hp=>h p (by simp[hp])
theorem Jg:∀ (ids:List Nat) (l:List (Nat×aB)) (i:Nat),ah (gL ids l) i=if i∈ids then none else ah l i
 | [],l,i=>by simp[gL]
 | id::r,l,i=>by
  rw[gL,Jg r,eI];by_cases h1:i∈r
  .simp[h1]
  .by_cases h2:i=id
   .simp[h1,h2]
   .simp[h1,h2]
theorem Ke{m:List (Nat×Nat)}(h2:(m.map (·.2)).Nodup){j k id:Nat}(hj:ah m j=some id)(hk:ah m k=some id):j=k:=by
 have e1:=eW hj;have e2:=eW hk;have:(j,id)=(k,id):=by
  clear hj hk;induction m with
  | nil=>cases e1
  | cons p m ih =>
   simp only[b5J,b5G] at h2;rcases b5h.1 e1 with q1|e1
   .rcases b5h.1 e2 with q2|e2
    .rw[q1,q2]
    .exact absurd (b4W.2 ⟨(k,id),e2,by rw[<-q1]⟩) h2.1
   .rcases b5h.1 e2 with q2|e2
    .exact absurd (b4W.2 ⟨(j,id),e1,by rw[<-q2]⟩) h2.1
    .exact ih h2.2 e1 e2
 exact congrArg Prod.fst this
theorem Cs{m:List (Nat×Nat)}{k id:Nat}(h:ah m k=some id):id∈m.map (·.2):=b4W.2 ⟨_,eW h,rfl⟩
theorem a6i{m:List (Nat×Nat)}{n:Nat}(h1:(m.map (·.1)).Nodup)(hl:m.length=n)(hk:∀ k,k<n->∃ id,ah m k=some id):∀ p∈m,p.1<n:=by
 have qv:List.range n ⊆ m.map (·.1):=λ k kM=>by
  obtain⟨id,q⟩:=hk k (List.mem_range.1 kM);exact b4W.2 ⟨_,eW q,rfl⟩
 have R4:(m.map (·.1)) ⊆ List.range n:=by
  intro x hx;refine b7F λ hn=>?_;have h3:(x::List.range n).Nodup:=b5G.2 ⟨hn,b7N⟩;have h4:(x::List.range n) ⊆ m.map (·.1):=λ y hy=>(b5h.1 hy).elim (λ e=>e ▸ hx) (λ hy=>qv hy);have:=b7q h3 h4;simp at this;omega
 exact λ p hp=>List.mem_range.1 (R4 (b4W.2 ⟨p,hp,rfl⟩))
theorem a2Z(hE:bF c.P c.E)(h:Inv c G s a w){o:Oper}{cl:Call}{d:Nat}{f:FuncId}(hd:o.dst=some d)(bz:o.op = .call cl)(fZ:cl.callee = .value (.func f)){vc:Vc}{s':aj}(hq:a1i c.E s d f cl.argTypes.toList (cl.args.toList.map s.eval)=some (vc,s'))(eb:vc.ok){Q:Exit->Act->World->Prop} :
  o.wp c.P a w (λ a' w'=>∃ G',Inv c G' s' a' w') Q:=by
 unfold a1i at hq;split at hq;case h_2=>cases hq
 case h_1 id rv hrv =>
 split at hq;case h_2=>cases hq
 case h_1 τ xs aY =>
 split at hq;case h_2=>cases hq
 case h_1 Z9 has =>
 split at hq;case h_2=>cases hq
 case h_1 pre ys hc DD =>
 simp only[b4L,b4P] at hq;obtain⟨rfl,rfl⟩:=hq;obtain⟨l7,gC⟩:=hE.Yc f Z9 τ xs pre ys hc eb;have hl:cl.args.toList.map s.eval=rv.reverse++[.av id]:=by
  have:=congrArg List.reverse hrv;simpa using this
 have ji:=aT.kz (lk:=s.ah) (bp h) cl.args.toList;rw[hl] at ji;have sZ:∀ (us:List AV) (zs:List Value),aT (VR c G s.ah w) (us++[.av id]) zs->∃ z1 v,zs=z1++[v]/\aT (VR c G s.ah w) us z1/\VR c G s.ah w (.av id) v:=by
  intro us;induction us with
  | nil =>
   intro zs hz;match zs,hz with
   | [v],hz=>exact⟨[],v,rfl,ae,hz.1⟩
  | cons u us ih =>
   intro zs hz;match zs,hz with
   | z::zs,hz =>
    obtain⟨z1,v,e,h1,h2⟩:=ih zs hz.2;exact⟨z::z1,v,by rw[e];rfl,⟨hz.1,h1⟩,h2⟩
 obtain⟨z1,v,hz,R7,hv⟩:=sZ _ _ ji;have WK:=λ b hb=>h.aL.pl id τ xs b aY hb;have dr:=uq hE h (mf:=[]) (S1:=G.S) (X:=λ b=>b∈G.φ id) (λ _ q=>q) (λ id o ho=>(xy ho).1) (λ τ v x y q1 q2=>CP (λ id e τ xs q=>by obtain⟨_,_,cs,e⟩:=xy q;cases e) (λ id τ xs q=>by obtain⟨_,_,cs,e⟩:=xy q;cases e) q1 q2)
  (λ b hb q=>by
   obtain⟨p1,p2,_⟩:=WK b hb;rcases q with q|⟨q,q3,_⟩
   .exact p2 q
   .exact p1.elim (λ q=>by omega) q3) (λ i o b ho hb hx=>(WK b hx).2.2.2 i o (xy ho).1 hb) (lk0:=s.ah) has R7 R7 (λ i k hk=>by simp at hk)
 obtain⟨_,l,ec,Aq⟩:=hv;have hO:=Ow.a0R (h.aL.tr id τ xs aY) ec;unfold Oper.wp;rw[fT bz fZ rfl l7];simp only[Oper.upon];rw[hz];have hbo:(λ i=>kJ G [] i)=λ _=>0:=rfl;refine (gC w G.S z1 v (G.φ id) h.sOk dr hO (h.aL.nd id τ xs aY) (λ b hb=>⟨(WK b hb).2.2.1,(WK b hb).2.1⟩)).mono ?_;rintro e w' ⟨r,rfl,hk,mP,mR,L1,qv⟩;obtain⟨l',hT,_⟩:=ie.XK (τ:=τ) mR;rw[hd];show ∃ G',Inv c G' ((s.bU.dn id τ ys).put (some d) .any) (a.put (some d) r) w';refine h.Rn (w':=w') (t:=s.bU.dn id τ ys) (A:=[(id,(.tuple (v::l').toArray,mP, .av τ ys))]) ?_ ?_ ?_ (by simp) hk (λ b hb=>⟨_,List.mem_singleton.2 rfl,hb⟩) rfl (λ i=>?_) (λ G' lk=>trivial)
 .intro p hp;simp only[b5t] at hp;subst hp;exact⟨τ,xs,_,v,l,l',aY,rfl,ec,rfl,hT,L1⟩
 .intro p hp b hb;simp only[b5t] at hp;subst hp;rcases qv b hb with q|q
  .exact .inl ⟨_,b5t.2 rfl,q⟩
  .exact .inr (PJ h q.1 q.2)
 .intro p hp q hq b _ _;simp only[b5t] at hp hq;rw[hp,hq]
 .rw[JW,eQ]
theorem a4B(hE:bF c.P c.E)(h:Inv c G s a w){o:Oper}{vc:Vc}{s':aj}(hq:sop c.E s o=some (vc,s'))(eb:vc.ok){Q:Exit->Act->World->Prop} :
  o.wp c.P a w (λ a' w'=>∃ G',Inv c G' s' a' w') Q:=by
 unfold sop at hq;split at hq;case h_2=>cases hq
 case h_1 d hd =>
 split at hq;case h_2=>cases hq
 case h_1 cl bz =>
 split at hq;case h_2=>cases hq
 case h_1 f fZ =>
 split at hq;case h_2=>exact a2Z hE h hd bz fZ hq eb
 case h_1 sk hsk =>
 split at hq;case h_2=>cases hq
 case h_1 m0 hm0 =>
 split at hq;case h_2=>cases hq
 case h_1 bN ids m hm =>
 split at hq;case h_2=>cases hq
 case h_1 b0M =>
 split at hq;case h_2=>cases hq
 case h_1 Z9 has =>
 split at hq;case h_2=>cases hq
 case h_1 pre res dI hc =>
 split at hq;case h_2=>cases hq
 case h_1 bs ts rC =>
 split at hq;case h_2=>cases hq
 case h_1 Lb =>
 simp only[Option.some.injEq,Prod.mk.injEq] at hq;obtain⟨rfl,rfl⟩:=hq;simp only[Bool.and_eq_true] at b0M;obtain⟨WE,YA,YB,hn4⟩:=b0M;have WE:=cW WE;have YA:=cW YA;have YB:=cW YB;have hn4:=Nat.eq_of_beq_eq_true hn4;simp only[Bool.and_eq_true,List.all_eq_true] at Lb;have vF:∀ p∈bx (bV d) res++ts,(ids.foldl aj.gone s).ah p.1=none:=λ p hp=>by simpa using Lb.1 p hp
 have rB:=cW Lb.2;obtain⟨l7,gC⟩:=hE.XZ f sk Z9 bN pre res dI hsk hc eb;obtain⟨_,a0w⟩:=xT hm0;obtain⟨hx0,a0y,fa,Ws,TD,b3u⟩:=wb h hm WE;have Ws:=Ws m (lr.refl m);have a0w:∀ (i k:Nat),sk.ps[i]?=some (some k)->∃ id,(cl.args.toList.map s.eval)[i]?=some (AV.ptr id 0)/\ah m k=some id:=λ i k q=>by
  obtain⟨id,q1,q2⟩:=a0w i k q;exact⟨id,q1,hx0 k id q2⟩
 have h1:Inv c G (ids.foldl aj.gone s) a w:=yz ids h;have hF:∀ b,b∈fa->wY c G (ids.foldl aj.gone s).ah w b:=λ b hb=>PM h (b3u b hb);have Fh:∀ k,k<sk.sh.length->∃ (id:Nat) (cs:List AV),ah m k=some id/\(ids.foldl aj.gone s).ah id=some (.box cs):=λ k hk=>by
  obtain⟨id,cs,q1,q2⟩:=a0y k (Nat.zero_le _) (by simpa using hk);refine⟨id,?_⟩;have aY:id∉ids:=λ hi=>by
   have:∀ {sh:List (List CK)} {k:Nat} {m m':List (Nat×Nat)} {bN:List (List TV)} {ids:List Nat},je s.ah sh k m=some (bN,ids,m')->∀ i∈ids,∀ cs,s.ah i≠some (.box cs):=by
    have qq:∀ {ks:List CK} {cs:List AV} {m m':List (Nat×Nat)} {ds:List TV} {ids:List Nat},df s.ah ks cs m=some (ds,ids,m')->∀ i∈ids,∀ cs,s.ah i≠some (.box cs):=by
     intro ks;induction ks with
     | nil =>
      intro cs m m' ds ids ht;cases cs<;>simp[df] at ht;obtain⟨_,rfl,_⟩:=ht;simp
     | cons k0 ks ih =>
      intro cs m m' ds ids ht;cases cs with
      | nil=>cases k0<;>simp[df] at ht
      | cons v cs =>
       cases k0 with
       | d τ =>
        simp only[df] at ht;split at ht;case h_2=>cases ht
        case h_1 y hy wC =>
        split at ht;case h_2=>cases ht
        case h_1 ds1 a2a m1 hr =>
        simp only[b4L,b4P] at ht;obtain⟨_,rfl,_⟩:=ht;exact ih hr
       | o τ =>
        simp only[df] at ht;split at ht;case h_2=>cases ht
        case h_1 y i hy wC =>
        split at ht;case h_2=>cases ht
        case h_1 ds1 a2a m1 hr =>
        simp only[b4L,b4P] at ht;obtain⟨_,rfl,_⟩:=ht;intro j hj cs2;rcases b4Q.1 hj with hj|hj
        .unfold ea at hy;split at hy
         .split at hy
          .simp only[b4L,b4P] at hy;obtain⟨_,rfl⟩:=hy;cases hj
          .cases hy
         .split at hy
          .simp only[b4L,b4P] at hy;obtain⟨_,rfl⟩:=hy;cases hj
          .cases hy
         .split at hy
          .rename_i hl;split at hy
           .simp only[b4L,b4P] at hy;obtain⟨_,rfl⟩:=hy;simp only[b5t] at hj;subst hj;rw[hl];simp
           .cases hy
          .cases hy
         .split at hy
          .rename_i hl;split at hy
           .simp only[b4L,b4P] at hy;obtain⟨_,rfl⟩:=hy;simp only[b5t] at hj;subst hj;rw[hl];simp
           .cases hy
          .cases hy
         .cases hy
        .exact ih hr j hj cs2
       | p j =>
        simp only[df] at ht;split at ht;case h_2=>cases ht
        case h_1 id =>
        split at ht
        .split at ht
         .exact ih ht
         .cases ht
        .exact ih ht
    intro sh;induction sh with
    | nil =>
     intro k m m' bN ids ht;simp only[je,b4L,b4P] at ht;obtain⟨_,rfl,_⟩:=ht;simp
    | cons ks sh ih =>
     intro k m m' bN ids ht;simp only[je] at ht;split at ht;case h_2=>cases ht
     case h_1 id aY =>
     split at ht;case h_2=>cases ht
     case h_1 cs kj =>
     split at ht;case h_2=>cases ht
     case h_1 ds i m1 hr =>
     split at ht;case h_2=>cases ht
     case h_1 b3c a2a m2 hr2 =>
     simp only[b4L,b4P] at ht;obtain⟨_,rfl,_⟩:=ht;intro j hj cs2;rcases b4Q.1 hj with hj|hj
     .exact qq hr j hj cs2
     .exact ih hr2 j hj cs2
   exact this hm id hi cs q2
  have:∀ (ids:List Nat) (s:aj) (cs:List AV),id∉ids->s.ah id=some (.box cs)->∃ dE,(ids.foldl aj.gone s).ah id=some (.box dE):=by
   intro ids;induction ids with
   | nil=>intro s cs _ hs;exact⟨cs,hs⟩
   | cons i ids ih =>
    intro s cs hi hs;have eR:id≠i:=λ e=>hi (by simp[e]);refine ih (s.gone i) (cs.map (AV.kill i)) (λ q=>hi (by simp[q])) ?_;rw[Fw,b4Z eR,hs];rfl
  obtain⟨dE,q3⟩:=this ids s cs aY q2;exact⟨dE,q1,q3⟩
 generalize hs1:ids.foldl aj.gone s=s1 at *
 have ec:∀ k id,ah m k=some id->k<sk.sh.length->G.η id = .pointer (some ⟨kJ G m k,0,none⟩)/\ef (G.η id)=some (kJ G m k):=λ k id hk bK=>by
  obtain⟨dy,cs,q1,q2⟩:=Fh k bK;rw[hk] at q1;simp only[b4L] at q1;subst q1;obtain⟨b,l,t,k1,_⟩:=h1.aJ id _ q2;have:kJ G m k=b:=by
   simp only[kJ,hk,k1];rfl
  rw[this,k1];exact⟨rfl,rfl⟩
 have ji:=a6i YA hn4 (λ k hk=>by obtain⟨id,_,q,_⟩:=Fh k hk;exact⟨id,q⟩);have a5i:∀ id,id∈m.map (·.2)->∃ k cs,k<sk.sh.length/\ah m k=some id/\s1.ah id=some (.box cs):=λ id aY=>by
  obtain⟨⟨k,dy⟩,hp,rfl⟩:=b4W.1 aY;have hk:=ji _ hp;have hl:=xi YA hp;obtain⟨id2,cs,q1,q2⟩:=Fh k hk;rw[hl] at q1;simp only[b4L] at q1;subst q1;exact⟨k,cs,hk,hl,q2⟩
 have Gd:∀ j k,j<sk.sh.length->k<sk.sh.length->kJ G m j=kJ G m k->j=k:=λ j k hj hk e=>by
  obtain⟨idj,csj,j1,j2⟩:=Fh j hj;obtain⟨idk,csk,k1,k2⟩:=Fh k hk;have:=h1.apart idj idk _ _ (kJ G m j) j2 k2 (ec j idj j1 hj).2 (by rw[e];exact (ec k idk k1 hk).2);subst this;exact Ke YB j1 k1
 have Zz:∀ k,k<sk.sh.length->(c.w0.heap.size<=kJ G m k\/c.X (kJ G m k))/\¬ G.S (kJ G m k)/\kJ G m k<w.heap.size:=λ k hk=>by
  obtain⟨id,cs,k1,k2⟩:=Fh k hk;exact h1.place id _ _ k2 (ec k id k1 hk).2
 have b0O:∀ b∈fa,∀ k,k<sk.sh.length->kJ G m k≠b:=λ b hb k hk e=>by
  obtain⟨id,cs,k1,k2⟩:=Fh k hk;exact (hF b hb).2.2.2.1 id _ k2 (by rw[<-e];exact (ec k id k1 hk).2)
 have hXo:∀ b,BX sk.sh.length (kJ G m) fa b->(c.w0.heap.size<=b\/c.X b)/\¬ G.S b:=λ b hb=>by
  rcases hb with hb|⟨k,hk,rfl⟩
  .exact⟨(hF b hb).1,(hF b hb).2.1⟩
  .exact⟨(Zz k hk).1,(Zz k hk).2.1⟩
 have wB:∀ b,BX sk.sh.length (kJ G m) fa b->¬ St c G.S b:=λ b hb q=>by
  obtain⟨q1,q2⟩:=hXo b hb;rcases q with q|⟨q,q3,_⟩
  .exact q2 q
  .exact q1.elim (λ q=>by omega) q3
 have l6:∀ id o b,id∉m.map (·.2)->s1.ah id=some o->ef (G.η id)=some b->¬ BX sk.sh.length (kJ G m) fa b:=λ id o b aY ho hb q=>by
  rcases q with q|⟨k,hk,rfl⟩
  .exact (hF b q).2.2.2.1 id _ ho hb
  .obtain⟨dy,cs,k1,k2⟩:=Fh k hk;have:=h1.apart id dy _ _ _ ho k2 hb (ec k dy k1 hk).2;subst this;exact aY (Cs k1)
 have b0I:∀ id τ xs b,s1.ah id=some (.av τ xs)->b∈G.φ id->¬ BX sk.sh.length (kJ G m) fa b:=λ id τ xs b ht hb q=>by
  rcases q with q|⟨k,hk,rfl⟩
  .exact (hF b q).2.2.2.2 id τ xs ht hb
  .obtain⟨dy,cs,k1,k2⟩:=Fh k hk;exact (h1.aL.pl id τ xs _ ht hb).2.2.2 dy _ k2 (ec k dy k1 hk).2
 have Aq:∀ id o b,sLk sk.sh s1.ah (m.map (·.2)) id=some o->ef (G.η id)=some b->¬ BX sk.sh.length (kJ G m) fa b:=λ id o b ho hb=>l6 id o b (Q7 ho).2 (Q7 ho).1 hb;have a9B:a0a c.P f sk.sh res dI w G.S (kJ G m) (cl.args.toList.map a.eval) fa:=by
  cases Yy:PH sk.sh with
  | false =>
   have fM:∀ id o,sLk sk.sh s1.ah (m.map (·.2)) id=some o->∃ cs,o = .box cs:=λ id o q=>by
    unfold sLk at q;rw[Yy] at q;exact (xy q).2.2
   have dr:=uq hE h1 (mf:=m) (λ _ q=>q) (λ id o ho=>(Q7 ho).1) (λ τ v x y q1 q2=>CP (λ id e τ xs q=>by obtain⟨cs,e⟩:=fM _ _ q;cases e) (λ id τ xs q=>by obtain⟨cs,e⟩:=fM _ _ q;cases e) q1 q2) wB Aq (lk0:=s.ah) has (aT.kz (bp h1) cl.args.toList) (aT.kz (bp h) cl.args.toList) a0w;exact gC w G.S (kJ G m) _ fa h1.sOk Ws TD (λ b hb=>⟨(hF b hb).2.2.1,(hF b hb).2.1,b0O b hb⟩) (λ k hk=>⟨(Zz k hk).2.2,(Zz k hk).2.1⟩) Gd dr
  | true =>
   have dr:=uq hE h1 (mf:=m) (S1:=SX G s1.ah) (λ _ q => .inl q) (λ id o ho=>(Q7 ho).1) (λ τ v x y q1 q2=>AA h1.aL h1.aJ (λ id o ho=>(Q7 ho).1) q1 q2) wB Aq (lk0:=s.ah) has (aT.kz (bp h1) cl.args.toList) (aT.kz (bp h) cl.args.toList) a0w;refine gC.more Yy h1.a2U (λ _ q => .inl q) (λ b hb q=>?_) Ws TD (λ b hb=>⟨(hF b hb).2.2.1,(hF b hb).2.1,b0O b hb⟩) (λ k hk=>⟨(Zz k hk).2.2,(Zz k hk).2.1⟩) Gd dr;rcases q with q|⟨id,e,τ,xs,q1,q2⟩|⟨id,τ,xs,q1,q2⟩
   .exact (hXo b hb).2 q
   .refine l6 id _ b (λ aY=>?_) q1 q2 hb;obtain⟨_,cs,_,_,q3⟩:=a5i id aY;rw[q1] at q3;cases q3
   .exact b0I id τ xs b q1 q2 hb
 unfold Oper.wp;rw[fT bz fZ rfl l7];simp only[Oper.upon];refine Calls.mono (show a0a c.P f sk.sh res dI w G.S (kJ G m) (cl.args.toList.map a.eval) fa from a9B) ?_;rintro e w' ⟨x,S',fp,KU,rfl,hk,hS1,hS2,hS3,hO,hB',cR,jM,hBS⟩;obtain⟨wX,xs,e1,e2,e3,e4,e5⟩:=JA rC hB';let Je:Nat->Option aB:=λ i=>match ah bs i with
  | some (.box cs)=>some (.box (List.replicate cs.length .any))
  | _=>s1.ah i
 have a0z:∀ id,id∈m.map (·.2)->∃ (k:Nat) (dE:List AV),k<sk.sh.length/\ah m k=some id/\ah bs id=some (.box dE)/\∃ (l:List Value) (t:TypeId),w'.heap[kJ G m k]?=some (.cells l.toArray t (0,0))/\l.length=dE.length:=λ id aY=>by
  obtain⟨k,cs,k1,k2,k3⟩:=a5i id aY;obtain⟨dy,dE,l,t,g1,g2,g3,g4⟩:=e4 k (Nat.zero_le _) (by simpa using k1);rw[k2] at g1;simp only[Option.some.injEq] at g1;subst g1;have ct:∃ o,ah bs id=some o:=by
   cases hl:ah bs id with
   | some o=>exact⟨o,rfl⟩
   | none =>
    exfalso;have:∀ {l:List (Nat×aB)} {k:Nat},ah l k=none->∀ p∈l,p.1≠k:=by
     intro l;induction l with
     | nil=>intro k _ p hp;cases hp
     | cons q l ih =>
      intro k hq p hp;obtain⟨j,o⟩:=q;rw[pG] at hq;split at hq
      .cases hq
      .rename_i eR;rcases b5h.1 hp with rfl|hp
       .exact λ e=>eR e.symm
       .exact ih hq p hp
    exact this hl _ g2 rfl
  obtain⟨o,ho⟩:=ct;obtain⟨j,cs2,l2,t2,_,j2,j3,j4,j5,j6,_⟩:=e5 _ (eW ho);have:j=k:=Ke YB j3 k2;subst this;simp only at j4;subst j4;exact⟨j,cs2,k1,k2,ho,l2,t2,j5,j6⟩
 have b0L:∀ id,id∉m.map (·.2)->ah bs id=none:=λ id aY=>ud λ p hp e=>by
  obtain⟨j,_,_,_,_,_,j3,_⟩:=e5 p hp;exact aY (e ▸ Cs j3)
 have ZE:∀ id,id∉m.map (·.2)->Je id=s1.ah id:=λ id aY=>by simp only[Je,b0L id aY]
 have a7J:∀ id k dE,ah m k=some id->ah bs id=some (.box dE)->Je id=some (.box (List.replicate dE.length .any)):=λ id k dE _ hb=>by simp only[Je,hb]
 have hA:bw c ⟨S',G.η,G.φ⟩ s1.sl s1.aC.length Je a w':=by
  refine Inv.a9q h1 (X:=BX sk.sh.length (kJ G m) fa) hk (λ b hb=>(hXo b hb).1) (λ b hb=>(hXo b hb).2) hS1 hS2 hS3 (λ id=>?_) b0I;by_cases aY:id∈m.map (·.2)
  .obtain⟨k,dE,q1,q2,q3,l,t,q4,q5⟩:=a0z id aY;obtain⟨_,cs,_,_,q6⟩:=a5i id aY;obtain⟨g1,g2⟩:=ec k id q2 q1;refine .inr ⟨cs,_,q6,a7J id k dE q2 q3,λ b hb=>?_,kJ G m k,l,t,g1,q4,λ G' lk'=>?_⟩
   .rw[g2] at hb;simp only[b4L] at hb;subst hb;exact hBS k q1
   .have:∀ (l:List Value),aT (C1 c G' lk' w') (List.replicate l.length .any) l:=λ l=>by
     induction l with
     | nil=>exact trivial
     | cons x l ih=>exact⟨ae,ih⟩
    rw[<-q5];exact this l
  .exact .inl ⟨ZE id aY,λ o b ho hb=>l6 id o b aY ho hb⟩
 have a7O:∀ p∈bx (bV d) res++ts,p.1∉m.map (·.2):=λ p hp aY=>by
  obtain⟨_,cs,_,_,q⟩:=a5i p.1 aY;rw[vF p hp] at q;cases q
 rw[b5s] at cR;obtain⟨kO,nd2,nd3⟩:=cR;rw[b6F,b5s] at rB;obtain⟨dd1,dd2,dd3⟩:=rB;have hFr:Fr c ⟨S',G.η,G.φ⟩ Je w' (fp++KU):=λ b hb=>by
  obtain⟨q1,q2,q3⟩:=jM b hb;have qp:∀ i o,Je i=some o->ef (G.η i)≠some b:=λ i o cG e=>by
   by_cases aY:i∈m.map (·.2)
   .obtain⟨k,dE,g1,g2,_⟩:=a0z i aY;rw[(ec k i g2 g1).2] at e;simp only[b4L] at e;exact q3 k g1 e
   .rw[ZE i aY] at cG;rcases q1 with q1|⟨q1,_⟩
    .exact (hF b q1).2.2.2.1 i o cG e
    .have:=(h1.place i o b cG e).2.2;omega
  have hbt:∀ j τ zs,Je j=some (.av τ zs)->b∉G.φ j:=λ j τ zs hj nS=>by
   by_cases aY:j∈m.map (·.2)
   .obtain⟨k,dE,g1,g2,g3,_⟩:=a0z j aY;rw[a7J j k dE g2 g3] at hj;cases hj
   .rw[ZE j aY] at hj;rcases q1 with q1|⟨q1,_⟩
    .exact (hF b q1).2.2.2.2 j τ zs hj nS
    .have:=(h1.aL.pl j τ zs b hj nS).2.2.1;omega
  rcases q1 with q1|⟨q1,q1'⟩
  .exact⟨(hF b q1).1,q2,b5i (hF b q1).2.2.1 hk.size,qp,hbt⟩
  .exact⟨.inl (b6x h1.aR.size q1),q2,q1',qp,hbt⟩
 have IK:∀ j,bV d<=j->c.R j=none:=λ j hj=>by
  cases hr:c.R j with
  | none=>rfl
  | some v=>have:=h.ic j v hr;unfold bV at hj;omega
 obtain⟨ys,mR,Uq⟩:=Oj (c:=c) (id:=bV d) hO;obtain⟨G1,qK,k1,k2,k3,k4,k5⟩:=hA.OV (id:=bV d) mR kO (λ b hb=>hFr b (by simp[hb])) (λ p hp=>by
  rw[ZE p.1 (a7O p (by simp[hp]))];exact vF p (by simp[hp])) dd1 IK
 rw[e1] at dd2 dd3 vF a7O;obtain⟨G2,lk2,p1,p2,p3,p4,_⟩:=k2.CN (us:=wX) (cs:=xs) (fp:=KU) (id:=bV d+60) e3 e2 nd2 (k5 KU (λ b hb=>hFr b (by simp[hb])) λ b hb cA=>nd3 b cA b hb rfl) (λ p hp=>by
  rw[k1 p.1];unfold gj;rw[ud (l:=bx (bV d) res) λ q hq e=>dd3 q.1 (List.mem_map.2 ⟨q,hq,rfl⟩) p.1 (List.mem_map.2 ⟨p,hp,rfl⟩) e];simp only;rw[ZE p.1 (a7O p (by simp[hp]))];exact vF p (by simp[hp])) dd2 (λ j hj=>IK j (by omega))
 have b3H:VR c G2 lk2 w' (kB (bV d) res) x:=Uq G2 lk2 (k4.imp λ u y _ hy=>hy.ext p3);have DC:=bw.put (d:=some d) p2 b3H;have b0P:∀ i,aj.ah { aC:=s1.aC.set d (kB (bV d) res),aJ:=bs++(bx (bV d) res++ts)++gL (m.map (·.2)) s1.aJ } i=gj bs (gj (bx (bV d) res) (gj ts (λ i=>if i∈m.map (·.2) then none else s1.ah i))) i:=λ i=>by
  show ah (bs++(bx (bV d) res++ts)++gL (m.map (·.2)) s1.aJ) i=_;rw[b5O,pF,show ah (bx (bV d) res++ts++gL (m.map (·.2)) s1.aJ)=gj (bx (bV d) res) (gj ts (λ i=>if i∈m.map (·.2) then none else s1.ah i)) from funext λ j=>by
   rw[b5O,pF,show ah (ts++gL (m.map (·.2)) s1.aJ)=gj ts (λ i=>if i∈m.map (·.2) then none else s1.ah i) from funext λ j=>by
    rw[pF,show ah (gL (m.map (·.2)) s1.aJ)=(λ i=>if i∈m.map (·.2) then none else s1.ah i) from funext λ j=>Jg _ _ j]]]
 generalize cw:({ aC:=s1.aC.set d (kB (bV d) res),aJ:=bs++(bx (bV d) res++ts)++gL (m.map (·.2)) s1.aJ }:aj)=s2 at *
 have b3y:∀ i,lk2 i=gj ts (gj (bx (bV d) res) Je) i:=λ i=>by
  rw[p1 i,e1];unfold gj;rw[k1 i];rfl
 have ZF:∀ i,i∉m.map (·.2)->s2.ah i=lk2 i:=λ i aY=>by
  rw[b0P i,b3y i];unfold gj;rw[b0L i aY,ZE i aY];simp only[if_neg aY];cases hV:ah (bx (bV d) res) i with
  | none=>rfl
  | some o =>
   rw[ud (l:=ts) λ q hq e=>dd3 i (b4W.2 ⟨(i,o),eW hV,rfl⟩) q.1 (b4W.2 ⟨q,by rw[<-e1];exact hq,rfl⟩) e.symm]
 have eA:∀ i,i∈m.map (·.2)->∃ k dE,k<sk.sh.length/\ah m k=some i/\ah bs i=some (.box dE)/\lk2 i=some (.box (List.replicate dE.length .any))/\s2.ah i=some (.box dE)/\G2.η i = .pointer (some ⟨kJ G m k,0,none⟩):=λ i aY=>by
  obtain⟨k,dE,q1,q2,q3,_⟩:=a0z i aY;have hA':=a7J i k dE q2 q3;obtain⟨r1,r2,_⟩:=(k3.trans p3).old i _ hA';refine⟨k,dE,q1,q2,q3,r1,?_,by rw[r2];exact (ec k i q2 q1).1⟩;rw[b0P i];unfold gj;rw[q3]
 have eU:∀ i,eK (lk2 i) (s2.ah i):=λ i=>by
  by_cases aY:i∈m.map (·.2)
  .obtain⟨k,dE,_,_,_,q4,q5,_⟩:=eA i aY;rw[q4,q5];exact⟨λ _=>rfl,(λ e τ xs q=>by cases q),(λ q=>by cases q),λ q=>by cases q⟩
  .rw[ZF i aY];exact eK.refl _
 have b1M:=bw.b3Q (lk2:=s2.ah) DC (λ i=>by
  by_cases aY:i∈m.map (·.2)
  .obtain⟨k,dE,q1,q2,q3,q4,q5,q6⟩:=eA i aY;obtain⟨j,cs2,l,t,_,j2,j3,j4,j5,_,j7⟩:=e5 _ (eW q3);have:j=k:=Ke YB j3 q2;subst this;simp only[aB.box.injEq] at j4;subst j4;refine .inr ⟨_,_,q4,q5,kJ G m j,l,t,q6,j5,?_⟩;refine j7 G2 s2.ah (λ b hb=>by rw[p3.S,k3.S];exact hb) (λ j' id IQ=>?_) (p4.imp λ u y _ hy=>hy.mono (λ i _=>⟨eU i,rfl⟩) (λ _ q=>q) (λ _ _=>rfl));obtain⟨k',b4F,g1,g2,_,_,g5,g6⟩:=eA id (Cs IQ);have:j'=k':=Ke YB IQ g2;subst this;exact⟨g6,by rw[g5];rfl⟩
  .exact .inl (ZF i aY))
 refine⟨G2,?_⟩;unfold Inv;rw[hd,<-cw,show aj.sl { aC:=s1.aC.set d (kB (bV d) res),aJ:=bs++(bx (bV d) res++ts)++gL (m.map (·.2)) s1.aJ }=jV s1.aC.length s1.sl (some d) (kB (bV d) res) from re s1.aC d _ _,
  show ({ aC:=s1.aC.set d (kB (bV d) res),aJ:=bs++(bx (bV d) res++ts)++gL (m.map (·.2)) s1.aJ }:aj).aC.length=s1.aC.length from by simp,cw]
 exact b1M
end
theorem Dq(id:Nat)(u:AV):∀ l:List AV,AV.Wp id u l=l.map (AV.KV id u)
 | []=>rfl
 | v::r=>congrArg _ (Dq id u r)
section
variable {c:Ctx} {G:Gh} {s:aj} {a:Act} {w w':World}
theorem a8K{lk:Nat->Option aB}{id:Nat}{e:TypeId}{τ:Ty}{xs:List τ.den}(ho:OR c G lk w id (.row e τ xs)){S':Nat->Prop}(hS:∀ b,G.S b->S' b)(hb:∀ b,ef (G.η id)=some b->S' b) :
  Rd w S' (Ty.aP (.slice τ) xs) [G.η id]:=by
 obtain⟨l,h1,h2,h3⟩:=ho;exact ZT h1 h2 h3 hS hb
theorem C1.KV{lk lk':Nat->Option aB}{id:Nat}{e:TypeId}{τ:Ty}{xs:List τ.den}(aY:lk id=some (.row e τ xs))(ho:OR c G lk w id (.row e τ xs)){S':Nat->Prop}(hS:∀ b,G.S b->S' b)(hb:∀ b,ef (G.η id)=some b->S' b)
  (ct:∀ j,j≠id->eK (lk j) (lk' j)) {v:AV} {x:Value} (h:C1 c G lk w v x):C1 c ⟨S',G.η,G.φ⟩ lk' w (AV.KV id (.aH ⟨.slice τ,xs⟩) v) x:=by
 have aR:(∀ j,v.refs j=true->j≠id)->C1 c ⟨S',G.η,G.φ⟩ lk' w v x:=λ hr=>h.mono (λ j hj=>⟨ct j (hr j hj),rfl⟩) hS (λ _ _=>rfl);cases v with
 | row i =>
  simp only[AV.KV];split
  .rename_i hi;have hi:=b4O hi;subst hi;refine⟨rfl,?_⟩;rw[h.1];exact a8K ho hS hb
  .rename_i hi;refine aR λ j hj=>?_;simp only[AV.refs] at hj;have:=b4O hj;intro e;subst this e;simp at hi
 | eH i k off =>
  simp only[AV.KV];split
  .trivial
  .rename_i hi;refine aR λ j hj=>?_;simp only[AV.refs] at hj;have:=b4O hj;intro e;subst this e;simp at hi
 | ptr i off =>
  refine aR λ j hj=>?_;simp only[AV.refs] at hj;have:=b4O hj;intro e;subst this e;obtain⟨b,_,_,h3⟩:=h;rw[aY] at h3;cases h3
 | agg cs=>exact h.elim
 | iS cs=>exact h.elim
 | dc f cs=>exact h.elim
 | iF v=>exact aR λ j hj=>by cases hj
 | any=>trivial
 | ep=>exact h
 | aH u=>exact aR λ j hj=>by cases hj
 | nil=>exact aR λ j hj=>by cases hj
 | cX u=>exact aR λ j hj=>by cases hj
 | fn f=>exact aR λ j hj=>by cases hj
 | mp i =>
  refine aR λ j hj=>?_;simp only[AV.refs] at hj;have:=b4O hj;intro e;subst this e;have h3:=h.2.1;rw[aY] at h3;cases h3
 | av i =>
  refine aR λ j hj=>?_;simp only[AV.refs] at hj;have:=b4O hj;intro e;subst this e;have h1:=h.1;rw[aY] at h1;cases h1
 | sub i k o z =>
  refine aR λ j hj=>?_;simp only[AV.refs] at hj;have:=b4O hj;intro e;subst this e;have h1:=h.1;rw[aY] at h1;cases h1
 | eP i k o z =>
  refine aR λ j hj=>?_;simp only[AV.refs] at hj;have:=b4O hj;intro e;subst this e;have h1:=h.1;rw[aY] at h1;cases h1
theorem Dp(id:Nat)(u:AV):∀ l:List AV,AV.Wo id u l=l.map (AV.Hn id u)
 | []=>rfl
 | v::r=>congrArg _ (Dp id u r)
theorem C1.Hn{lk lk':Nat->Option aB}{id:Nat}{τ:Ty}{xs:List τ.den}(aY:lk id=some (.av τ xs))(hT:ie w (G.η id) τ xs (G.φ id)){S':Nat->Prop}(hS:∀ b,G.S b->S' b)(hb:∀ b∈G.φ id,S' b)
  (ct:∀ j,j≠id->eK (lk j) (lk' j)) {v:AV} {x:Value} (h:C1 c G lk w v x):C1 c ⟨S',G.η,G.φ⟩ lk' w (AV.Hn id (.aH ⟨.slice τ,xs⟩) v) x:=by
 have aR:(∀ j,v.refs j=true->j≠id)->C1 c ⟨S',G.η,G.φ⟩ lk' w v x:=λ hr=>h.mono (λ j hj=>⟨ct j (hr j hj),rfl⟩) hS (λ _ _=>rfl);have other:∀ i:Nat,(Nat.beq i id=false\/cx (lk i)=false)->(∀ j,v.refs j=true->Nat.beq i j=true)->C1 c ⟨S',G.η,G.φ⟩ lk' w v x:=λ i hi hr=>aR λ j hj e=>by
  have q:=b4O (hr j hj);subst q;subst e;rcases hi with hi|hi
  .simp at hi
  .rw[aY] at hi;cases hi
 cases v with
 | av i =>
  simp only[AV.Hn];split
  .rename_i hi;have hi:=b4O hi;subst hi;obtain⟨_,l,h2,_⟩:=h;exact⟨rfl,hT.rd h2 hb⟩
  .rename_i hi;exact other i (.inl hi) λ j hj=>hj
 | sub i k o z =>
  simp only[AV.Hn];split
  .trivial
  .rename_i hi;exact other i (.inl hi) λ j hj=>hj
 | eP i k o z =>
  simp only[AV.Hn];split
  .trivial
  .rename_i hi;exact other i (.inl hi) λ j hj=>hj
 | row i=>exact other i (.inr (ti h.2.1)) λ j hj=>hj
 | eH i k off =>
  refine other i (.inr ?_) λ j hj=>hj;obtain⟨b,n,cap,e,bf,cS,_,h3,_⟩:=h;rw[h3];rfl
 | ptr i off =>
  refine other i (.inr ?_) λ j hj=>hj;obtain⟨b,_,_,h3⟩:=h;match hl:lk i,h3 with
  | some (.box _),_=>rfl
 | mp i=>exact other i (.inr (Ma h.2.1)) λ j hj=>hj
 | agg cs=>exact h.elim
 | iS cs=>exact h.elim
 | dc f cs=>exact h.elim
 | iF v=>exact aR λ j hj=>by cases hj
 | any=>trivial
 | ep=>exact h
 | aH u=>exact aR λ j hj=>by cases hj
 | nil=>exact aR λ j hj=>by cases hj
 | cX u=>exact aR λ j hj=>by cases hj
 | fn f=>exact aR λ j hj=>by cases hj
structure Fx(F:AV->AV):Prop where
 aH:∀ v,F (.aH v) = .aH v
 agg:∀ cs,F (.agg cs) = .agg (cs.map F)
 iS:∀ cs,F (.iS cs) = .iS (cs.map F)
 dc:∀ f cs,F (.dc f cs) = .dc f (cs.map F)
 any:F .any = .any
 av:∀ i,(∃ u,F (.av i) = .aH u)\/F (.av i) = .av i
 cX:∀ v,F (.cX v) = .cX v
section
variable {F:AV->AV} {G':Gh} {lk lk':Nat->Option aB} (hF:Fx F) (hC:∀ v x,C1 c G lk w v x->C1 c G' lk' w (F v) x) (hS:∀ b,G.S b->G'.S b)
include hF hC hS
theorem CR.fx{v:AV}{x:Value}(h:CR c G lk w v x):CR c G' lk' w (F v) x:=by
 rcases h.inv with ⟨u,rfl,h1⟩|⟨cs,l,rfl,rfl,h1⟩|h1
 .rw[hF.aH];exact dV.mono h1 hS (λ _ _=>rfl)
 .rw[hF.agg];exact⟨l,rfl,aT.dZ _ (h1.imp λ u y _ hy=>hC u y hy)⟩
 .exact (hC _ _ h1).a2W
theorem VR.fx{v:AV}{x:Value}(h:VR c G lk w v x):VR c G' lk' w (F v) x:=by
 have key:C1 c G lk w v x->VR c G' lk' w (F v) x:=λ q=>(hC v x q).fU;cases v with
 | aH u=>rw[hF.aH];exact dV.mono h hS (λ _ _=>rfl)
 | agg cs =>
  obtain⟨l,rfl,h2⟩:=h;rw[hF.agg];exact⟨l,rfl,aT.dZ _ (h2.imp λ u y _ hy=>hC u y hy)⟩
 | iS vs =>
  obtain⟨l,rfl,h2⟩:=h;rw[hF.iS];refine⟨l,rfl,aT.dZ _ (h2.imp λ u y _ hy=>?_)⟩;cases u with
  | any=>rw[hF.any];trivial
  | aH v=>rw[hF.aH];exact dV.mono hy hS (λ _ _=>rfl)
  | av i =>
   have q:=hC (.av i) y hy;rcases hF.av i with ⟨u,e⟩|e<;>rw[e] at q ⊢
   .exact q.fU
   .exact q
  | agg cs =>
   obtain⟨l,rfl,h2⟩:=hy;rw[hF.agg];exact⟨l,rfl,aT.dZ _ (h2.imp λ u y _ hy=>hC u y hy)⟩
  | cX v =>
   have q:=hC (.cX v) y hy;rw[hF.cX] at q ⊢;exact q
  | _=>exact hy.elim
 | dc f cs =>
  obtain⟨l,rfl,h2⟩:=h;rw[hF.dc];exact⟨l,rfl,aT.dZ _ (h2.imp λ u y _ hy=>CR.fx hF hC hS hy)⟩
 | any=>rw[hF.any];trivial
 | _=>exact key h
end
theorem a9A(id:Nat)(u:TV):Fx (AV.KV id (.aH u)):=⟨λ _=>rfl,λ cs=>by rw[AV.KV,Dq],λ cs=>by rw[AV.KV,Dq],λ f cs=>by rw[AV.KV,Dq],rfl,λ i => .inr rfl,λ _=>rfl⟩
theorem a9z(id:Nat)(u:TV):Fx (AV.Hn id (.aH u)):=⟨λ _=>rfl,λ cs=>by rw[AV.Hn,Dp],λ cs=>by rw[AV.Hn,Dp],λ f cs=>by rw[AV.Hn,Dp],rfl,λ i=>by
 simp only[AV.Hn];split
 .exact .inl ⟨u,rfl⟩
 .exact .inr rfl,λ _=>rfl⟩
def aB.fc(F:AV->AV):aB->aB
 | .box cs => .box (cs.map F)
 | o=>o
theorem Inv.fix(h:Inv c G s a w)(id:Nat)(F:AV->AV)(hF:Fx F)(B:Nat->Prop)(hB:∀ b,B b->(c.w0.heap.size<=b\/c.X b)/\b<w.heap.size/\(∀ i o,i≠id->s.ah i=some o->ef (G.η i)≠some b)/\∀ i τ xs,i≠id->s.ah i=some (.av τ xs)->b∉G.φ i)
  (hC:∀ lk',(∀ j,j≠id->eK (s.ah j) (lk' j))->∀ v x,C1 c G s.ah w v x->C1 c ⟨λ b=>G.S b\/B b,G.η,G.φ⟩ lk' w (F v) x) :
  Inv c ⟨λ b=>G.S b\/B b,G.η,G.φ⟩ { aC:=s.aC.map F,aJ:=(bS id s.aJ).map λ p=>(p.1,p.2.fc F) } a w:=by
 have hS:∀ b,G.S b->G.S b\/B b:=λ b hb => .inl hb;have ct:∀ i,aj.ah { aC:=s.aC.map F,aJ:=(bS id s.aJ).map λ p=>(p.1,p.2.fc F) } i=(if i=id then none else s.ah i).map (aB.fc F):=by
  intro i;show ah ((bS id s.aJ).map _) i=_;rw[Ki,eI];rfl
 have eU:∀ j,j≠id->eK (s.ah j) (aj.ah { aC:=s.aC.map F,aJ:=(bS id s.aJ).map λ p=>(p.1,p.2.fc F) } j):=by
  intro j hj;rw[ct,b4Z hj];refine⟨λ hh=>?_,λ e τ xs hh=>⟨e,xs,by rw[hh];rfl,b5w _⟩,λ hh=>?_,λ hh=>?_⟩
  .match hq:s.ah j,hh with
   | some (.box cs),_=>rfl
  .match hq:s.ah j,hh with
   | some (.av τ xs),_=>rfl
  .match hq:s.ah j,hh with
   | some (.map m),_=>rfl
 have hC:=hC _ eU;have hinv:∀ i o,aj.ah { aC:=s.aC.map F,aJ:=(bS id s.aJ).map λ p=>(p.1,p.2.fc F) } i=some o->i≠id/\∃ o',s.ah i=some o'/\o=o'.fc F:=λ i o cG=>by
  rw[ct] at cG;simp only[b5L] at cG;obtain⟨o',cG,rfl⟩:=cG;by_cases hi:i=id
  .simp[hi] at cG
  .rw[b4Z hi] at cG;exact⟨hi,o',cG,rfl⟩
 exact {
  defers:=h.defers
  size:=by rw[h.size];simp
  aR:=h.aR
  jf:=h.jf
  dT:=λ b hbl hx=>⟨λ hh=>by
   rcases hh with hh|hh
   .exact (h.dT b hbl hx).1 hh
   .exact (hB b hh).1.elim (λ q=>by omega) (λ q=>absurd q hx),λ hh => .inl ((h.dT b hbl hx).2 hh)⟩
  sX:=λ b hh => .inl (h.sX b hh)
  dB:=λ b hh=>by
   rcases hh with hh|hh
   .exact h.dB b hh
   .exact (hB b hh).2.1
  aC:=λ i=>by
   have he:aj.sl { aC:=s.aC.map F,aJ:=(bS id s.aJ).map λ p=>(p.1,p.2.fc F) } i=F (s.sl i):=by
    simp only[aj.sl,b5b,b6D];cases s.aC[i]? with
    | none=>exact hF.any.symm
    | some v=>rfl
   rw[he];exact VR.fx hF hC hS (h.aC i)
  aJ:=λ i o cG=>by
   obtain⟨hi,o',eF,rfl⟩:=hinv i o cG;have cP:=h.aJ i o' eF;cases o' with
   | box cs =>
    obtain⟨b,l,t,k1,k2,k3⟩:=cP;exact⟨b,l,t,k1,k2,aT.dZ _ (k3.imp λ u y _ hy=>hC u y hy)⟩
   | row e2 kW ny =>
    obtain⟨l,k1,k2,k3⟩:=cP;exact⟨l,k1,dU.aR hS (λ _ _=>rfl) _ k2,k3⟩
   | av kW ny=>trivial
   | map m=>exact cP
  place:=λ i o b cG iG=>by
   obtain⟨hi,o',eF,rfl⟩:=hinv i o cG;obtain⟨q1,q2,q3⟩:=h.place i o' b eF iG;exact⟨q1,λ hs=>hs.elim q2 λ hs=>(hB b hs).2.2.1 i o' hi eF iG,q3⟩
  apart:=λ i j o o2 b cG NG qp nS=>by
   obtain⟨_,o',eF,rfl⟩:=hinv i o cG;obtain⟨_,o2',b3v,rfl⟩:=hinv j o2 NG;exact h.apart i j o' o2' b eF b3v qp nS
  aL:=by
   have hold:∀ j kW ny,aj.ah { aC:=s.aC.map F,aJ:=(bS id s.aJ).map λ p=>(p.1,p.2.fc F) } j=some (.av kW ny)->j≠id/\s.ah j=some (.av kW ny):=λ j kW ny k=>by
    obtain⟨hj,o',NG,e⟩:=hinv j _ k;refine⟨hj,?_⟩;match o',e with
    | .av ..,e=>rw[NG,e];rfl
    | .box _,e=>cases e
    | .row ..,e=>cases e
    | .map _,e=>cases e
   exact {
    tr:=λ j kW ny k=>h.aL.tr j kW ny (hold j kW ny k).2
    nd:=λ j kW ny k=>h.aL.nd j kW ny (hold j kW ny k).2
    pl:=λ j kW ny b k cA=>by
     obtain⟨hj,k⟩:=hold j kW ny k;obtain⟨q1,q2,q3,q4⟩:=h.aL.pl j kW ny b k cA;refine⟨q1,λ hs=>hs.elim q2 λ hs=>(hB b hs).2.2.2 j kW ny hj k cA,q3,λ i o cG=>?_⟩;obtain⟨_,o',eF,rfl⟩:=hinv i o cG;exact q4 i o' eF
    ap:=λ j j' kW b1l ny b1k b k k'=>h.aL.ap j j' kW b1l ny b1k b (hold j kW ny k).2 (hold j' b1l b1k k').2 }
  root:=λ i v hr ht=>h.root i v hr (by
   match hl:aj.ah { aC:=s.aC.map F,aJ:=(bS id s.aJ).map λ p=>(p.1,p.2.fc F) } i,ht with
   | some (.av ..),_ =>
    obtain⟨_,o',cG,e⟩:=hinv i _ hl;match o',e with
    | .av ..,e=>rw[cG];rfl
    | .box _,e=>cases e
    | .row ..,e=>cases e
    | .map _,e=>cases e)
  ic:=h.ic
  dm:=λ i v hr ht=>h.dm i v hr (by
   match hl:aj.ah { aC:=s.aC.map F,aJ:=(bS id s.aJ).map λ p=>(p.1,p.2.fc F) } i,ht with
   | some (.box _),_ =>
    obtain⟨_,o',cG,e⟩:=hinv i _ hl;match o',e with
    | .box _,e=>rw[cG];rfl
    | .av ..,e=>cases e
    | .row ..,e=>cases e
    | .map _,e=>cases e)
  eN:=h.eN }
theorem a6b(id:Nat)(u:AV)(o:aB):o.KV id u=o.fc (AV.KV id u):=by
 cases o<;>simp[aB.KV,aB.fc,Dq]
theorem a6a(id:Nat)(u:AV)(o:aB):o.Hn id u=o.fc (AV.Hn id u):=by
 cases o<;>simp[aB.Hn,aB.fc,Dp]
theorem Inv.freeze(h:Inv c G s a w)(id:Nat):∃ G',Inv c G' (s.freeze id) a w:=by
 unfold aj.freeze;split
 .rename_i e τ xs aY;have ho:=h.aJ id _ aY;rw[Dq];simp only[a6b];exact⟨_,h.fix id _ (a9A id _) (λ b=>ef (G.η id)=some b) (λ b hb=>by
   obtain⟨q1,_,q3⟩:=h.place id _ b aY hb;exact⟨q1,q3,λ i o hi cG qp=>hi (h.apart i id o _ b cG aY qp hb),λ i τ xs _ k q=>(h.aL.pl i τ xs b k q).2.2.2 id _ aY hb⟩)
   λ lk' hs v x hv=>C1.KV aY ho (λ _ hb => .inl hb) (λ _ hb => .inr hb) hs hv⟩
 .rename_i τ xs aY;rw[Dp];simp only[a6a];exact⟨_,h.fix id _ (a9z id _) (λ b=>b∈G.φ id) (λ b hb=>by
   obtain⟨q1,_,q3,q4⟩:=h.aL.pl id _ _ b aY hb;exact⟨q1,q3,λ i o _ cG=>q4 i o cG,λ i τ xs hi k q=>hi (h.aL.ap i id _ _ _ _ b k aY q hb)⟩)
   λ lk' hs v x hv=>C1.Hn aY (h.aL.tr id _ _ aY) (λ _ hb => .inl hb) (λ _ hb => .inr hb) hs hv⟩
 .exact⟨G,h⟩
theorem Inv.IC:∀ (l:List Nat) {G:Gh} {s:aj},Inv c G s a w->∃ G',Inv c G' (l.foldl aj.freeze s) a w
 | [],G,s,h=>⟨G,h⟩
 | i::r,G,s,h=>by
  obtain⟨G',h'⟩:=h.freeze i;exact Inv.IC r h'
theorem Kg{lk:Nat->Option aB}{v:AV}{x:Value}{K:Prop}(hv:VR c G lk w v x)(h:known v K):K:=by
 unfold known at h;split at h
 .rename_i n;obtain⟨_,h1,h2⟩:=hv;refine h ⟨?_,?_⟩
  .have:=h1;simp only[IntKind.min,IntKind.signed,IntKind.bits,b6M] at this;omega
  .have:=h2;simp only[IntKind.max,IntKind.signed,IntKind.bits,b6M] at this;omega
 .rename_i t xs;obtain⟨_,_,_,_,h1,_⟩:=jT hv;exact h h1
 .rename_i xs;obtain⟨s,_,h2,h3⟩:=hv;subst h2;exact h (by rw[b5S];exact h3)
 .exact h
theorem b1o{l:List Operand}{u v:AV}{ev:Operand->AV}(h:l.map ev=[u,v]){lk:Nat->Option aB}(cU:∀ x,VR c G lk w (ev x) (a.eval x)):∃ x y,l.map a.eval=[x,y]/\VR c G lk w u x/\VR c G lk w v y:=by
 have:=aT.kz cU l;rw[h] at this;match hl:l.map a.eval,this with
 | [x,y],hh=>exact⟨x,y,rfl,hh.1,hh.2.1⟩
theorem L9(hE:bF c.P c.E)(h:Inv c G s a w){o:Oper}{T:TypeId}{m k x:Operand}(bz:o.op = .mapUpdate T m k x\/o.op = .insert T m k x){vc:Vc}{s':aj}(he:Vn c.E s o.dst T m k x=some (vc,s'))(eb:vc.ok){Q:Exit->Act->World->Prop} :
  o.wp c.P a w (λ a' w'=>∃ G',Inv c G' s' a' w') Q:=by
 cases he
theorem a3A(hE:bF c.P c.E)(h:Inv c G s a w){o:Oper}{vc:Vc}{s':aj}(he:eop c.E s o=some (vc,s'))(eb:vc.ok){Q:Exit->Act->World->Prop} :
  o.wp c.P a w (λ a' w'=>∃ G',Inv c G' s' a' w') Q:=by
 unfold eop at he;split at he
 .rename_i bz;exact L9 hE h (.inl bz) he eb
 .rename_i bz;exact L9 hE h (.inr bz) he eb
 .rename_i T ad x bz;split at he
  .rename_i τ r hT;have hp:=bp h ad;have hx:=bp h x;have fin:∀ w' G1 (s1:aj),(Instr.storeAt T (a.eval ad) (a.eval x)).run c.P w = .ok () w'->Inv c G1 s1 a w'->s'=s1.put o.dst .any->o.wp c.P a w (λ a' w'=>∃ G',Inv c G' s' a' w') Q:=by
    intro w' G1 s1 hr hi hs;unfold Oper.wp;have:(execOp a.eval o).run c.P w = .ok .skip w':=by simp only[execOp,bz,Sem.run_bind,hr,Result.andThen_ok,Sem.run_pure]
    rw[this];refine⟨G1,?_⟩;rw[hs];exact Inv.put hi trivial
   split at he
   .rename_i id off cU;split at he
    .rename_i cs aY;split at he
     .rename_i new rC;split at he
      .rename_i dE DC;simp only[b4L,b4P] at he;obtain⟨rfl,rfl⟩:=he;rw[cU] at hp;obtain⟨w',k1,k2⟩:=h.store hE hT aY hp ⟨_,rC,hx⟩ DC;exact fin w' _ _ k1 k2 rfl
      .cases he
     .cases he
    .cases he
   .rename_i id i cU;split at he
    .rename_i e' bf xs aY;split at he
     .rename_i y jB hy;have jB:=b5E jB;subst jB;simp only[b4L,b4P] at he;obtain⟨rfl,rfl⟩:=he;rw[cU] at hp;obtain⟨w',k1,k2⟩:=h.a6G hE hT aY hp hx hy;exact fin w' _ _ k1 k2 rfl
     .cases he
    .cases he
   .cases he
  .cases he
 .rename_i cl bz;split at he
  .rename_i fZ;split at he
   .rename_i d T T' hd hTs;split at he
    .rename_i τ b e Wu hT;have Wu:=b4O Wu;subst Wu;split at he
     .rename_i id y dr;split at he
      .rename_i e' bf xs ys aY hy;split at he
       .rename_i cS Dy lh;have Dy:=b4O Dy;have e1:=TV.aU lh;cases e1;subst Dy;simp only[b4L,b4P] at he;obtain⟨rfl,rfl⟩:=he;obtain⟨x,z,m1,m2,m3⟩:=b1o (a:=a) (c:=c) (G:=G) (w:=w) dr (bp h);obtain⟨v',w',G',k1,k2⟩:=h.append hE hT (d:=d) aY m2 m3 hy eb o.type;have P4:cl.argTypes = #[T,T]:=by rw[<-b5X (xs:=cl.argTypes),hTs]
        have IV:cl.args.map a.eval = #[x,z]:=by rw[<-b5X (xs:=cl.args.map a.eval),b6S,m1]
        unfold Oper.wp;have:(execOp a.eval o).run c.P w = .ok (.value v') w':=by
         simp[execOp,bz,resolve,fZ,invoke,builtin,P4,IV,k1]
        rw[this];refine⟨G',?_⟩;rw[hd];exact k2
       .cases he
      .cases he
     .cases he
    .cases he
   .cases he
  .cases he
 .cases he
theorem a4g(hE:bF c.P c.E)(h:Inv c G s a w){o0:Oper}{vc:Vc}{v:AV}{ob:Option aB}(he:nop c.E s o0=some (vc,v,ob))(eb:vc.ok){Q:Exit->Act->World->Prop} :
  o0.wp c.P a w (Ay c G s.sl s.aC.length s.ah o0.dst a w v ob) Q:=by
 unfold nop at he;split at he;case h_2=>cases he
 case h_1 cl bz =>
 split at he;case h_2=>cases he
 case h_1 f fZ =>
 split at he;case h_2=>cases he
 case h_1 d hd =>
 split at he;case h_2=>cases he
 case h_1 Z9 has =>
 have key:∀ (T:Nat->Prop),(∀ x∈cl.args.toList.map a.eval,∀ q:Addr,x = .pointer (some q)->T q.block)->∀ pre o,c.E.TT f Z9=some (pre,o)->pre.ok->o0.wp c.P a w (λ a' w'=>∃ x S',a'=a.put o0.dst x/\bw c ⟨S',G.η,G.φ⟩ s.sl s.aC.length s.ah a w' /\
   (∀ b,G.S b->S' b)/\(∀ b,ef x=some b->w.heap.size<=b/\b<w'.heap.size/\¬ S' b)/\a6T w' S' T x o) Q:=λ T hT pre o hc eb=>by
  obtain⟨l7,gC⟩:=hE.TT f Z9 pre o hc eb;unfold Oper.wp;rw[fT bz fZ rfl l7];simp only[Oper.upon];refine (gC w G.S T _ h.sOk hT (iy hE h (FF (λ _ _ h=>h)) (λ _ h=>h) (λ τ v x y h1 h2=>CP FG BK h1 h2) has (aT.kz (bp h) _))).mono ?_;rintro e w' ⟨x,S',rfl,hk,hS1,hS2,hb,hx⟩;exact⟨x,S',rfl,bw.grow h hk hS1 hS2,λ b hb=>(hS1 b (h.dB b hb)).2 hb,hb,hx⟩
 split at he;case h_4=>cases he
 case h_3 pre l hc =>
  split at he;case h_2=>cases he
  case h_1 cw =>
  simp only[b4L,b4P] at he;obtain⟨rfl,rfl,rfl⟩:=he;refine b6u ?_ (key (St c G.S) (λ x hx q hq=>?_) _ _ hc eb)
  .rintro a' w' ⟨x,S',rfl,hI,hS,hb,ys,rfl,R6⟩;refine⟨_,S',rfl,hI,ys.toArray.toList,rfl,aT.dZ _ (R6.imp λ r y _ hy=>?_)⟩;obtain⟨bb,v⟩:=r;cases bb with
   | true =>
    obtain⟨b,o,cs,h1,h2,h3,h4⟩:=hy;exact⟨b,o,cs,h1,h2.elim .inl λ h2=>h2.imp (hS b) id,h3,h4⟩
   | false=>exact hy
  .obtain⟨y,hy,rfl⟩:=b4W.1 hx;have h1:=b5F.1 cw _ (b4W.2 ⟨y,hy,rfl⟩);have h2:=bp h y;generalize s.eval y=v at h1 h2;rw[hq] at h2;cases v with
   | cX u=>obtain⟨b,o,cs,e,h3,_⟩:=h2;cases e;exact h3
   | aH u =>
    obtain⟨τ,z⟩:=u;cases τ with
    | int k=>obtain⟨e,_⟩:=h2;cases e
    | bool=>have e:[Value.pointer (some q)]=[.bool z]:=h2;cases e
    | str=>obtain⟨_,e,_⟩:=h2;cases e
    | slice t=>obtain⟨_,_,e,_⟩:=h2;cases e
    | st s=>obtain⟨_,e,_⟩:=h2;cases e
    | mv t=>cases z with
     | none=>obtain⟨_,_,_,e⟩:=h2;cases e
     | some z=>obtain⟨_,_,e,_⟩:=h2;cases e
    | ptr=>cases h1
   | _=>cases h1
 case h_1 pre cells hc =>
  simp only[b4L,b4P] at he;obtain⟨rfl,rfl,rfl⟩:=he;refine b6u ?_ (key (λ _=>True) (λ _ _ _ _=>trivial) _ _ hc eb);rintro a' w' ⟨x,S',rfl,hI,_,hb,b,l,t,rfl,hh,kj⟩;exact⟨_,S',rfl,hI,⟨d,hd,rfl⟩,⟨b,l,t,rfl,hh,aT.dZ _ (kj.imp λ u y _ hy=>hy)⟩,hb⟩
 case h_2 pre e τ xs hc =>
  simp only[b4L,b4P] at he;obtain⟨rfl,rfl,rfl⟩:=he;refine b6u ?_ (key (λ _=>True) (λ _ _ _ _=>trivial) _ _ hc eb);rintro a' w' ⟨x,S',rfl,hI,_,hb,l,h1,h2,h3⟩;exact⟨_,S',rfl,hI,⟨d,hd,rfl⟩,⟨l,h1,h2,h3⟩,hb⟩
theorem Q3(hE:bF c.P c.E)(h:Inv c G s a w){o:Oper}{K:aj->Prop}(hr:lq c.E o K s){Q:Exit->Act->World->Prop} :
  o.wp c.P a w (λ a' w'=>∃ G' s',Inv c G' s' a' w'/\K s') Q:=by
 unfold lq at hr;split at hr
 .exact hr.elim
 rename_i Nz;obtain⟨G1,h1⟩:=h.IC (kY c.E s o);generalize (kY c.E s o).foldl aj.freeze s=s1 at *
 simp only at hr;split at hr
 .rename_i vc s' he;exact b6u (λ a' w' ⟨G',hg⟩=>⟨G',s',hg,(Vc.jX hr).2⟩) (a4B hE h1 he (Vc.jX hr).1)
 split at hr
 .rename_i vc s' he;exact b6u (λ a' w' ⟨G',hg⟩=>⟨G',s',hg,(Vc.jX hr).2⟩) (a3r hE h1 he (Vc.jX hr).1)
 split at hr
 .rename_i vc s' he;exact b6u (λ a' w' ⟨G',hg⟩=>⟨G',s',hg,(Vc.jX hr).2⟩) (a3A hE h1 he (Vc.jX hr).1)
 .split at hr
  .rename_i vc s' he;exact b6u (λ a' w' ⟨G',hg⟩=>⟨G',s',hg,(Vc.jX hr).2⟩) (a4p hE h1 he (Vc.jX hr).1)
  split at hr
  .rename_i vc v ob he;refine b6u ?_ (a4g hE h1 he (Vc.jX hr).1);intro a' w' hd;obtain⟨G',hl⟩:=Xd h1 Nz hd;exact⟨G',_,hl,(Vc.jX hr).2⟩
  .split at hr
   .rename_i vc v ob hq;obtain⟨eb,hk⟩:=Vc.jX hr;refine b6u ?_ (Om hE h1 (λ _ _ h=>h) (bp h1) hq eb);intro a' w' hd;obtain⟨G',hl⟩:=Xd h1 Nz hd;refine⟨G',_,hl,?_⟩;split at hk
    .obtain⟨x,S',_,_,hx⟩:=hd;cases ob with
     | none=>exact Kg hx hk
     | some ob =>
      obtain⟨hL,_⟩:=hx;cases ob with
      | box cs=>obtain⟨i,_,rfl⟩:=hL;exact hk
      | row e τ xs=>obtain⟨i,_,rfl⟩:=hL;exact hk
      | av τ xs=>exact hL.elim
      | map m=>obtain⟨i,_,rfl⟩:=hL;exact hk
    .exact hk
   .exact hr.elim
theorem a3H{t:Array Value}{i:Nat}{b:Bool}(h:t.getD i undef = .bool b):t[i]?=some (.bool b):=by
 rw[b5I] at h;cases hx:t[i]? with
 | none=>rw[hx] at h;simp[undef] at h
 | some v=>rw[hx] at h;simpa using h
theorem Nx{ops:Array Oper}{g t:Nat}{b:Bool}(ht:yB ops g=some t)(hx:VR c G s.ah w (.aH ⟨.bool,b⟩) (a.eval (.tmp t))):yielded ops a.tmps g=some b:=by
 have hb:[a.eval (.tmp t)]=[.bool b]:=hx;simp only[List.cons.injEq,and_true] at hb;have:=a3H hb;unfold yielded;rw[show (ops[g]?).bind (·.dst)=some t from ht];simp[this]
theorem IJ{ops:Array Oper}{g t:Nat}(ht:yB ops g=some t)(hx:VR c G s.ah w .ep (a.eval (.tmp t))):yielded ops a.tmps g=none:=by
 have hb:a.eval (.tmp t)=undef:=hx;have hb:a.tmps.getD t undef=undef:=hb;unfold yielded;rw[show (ops[g]?).bind (·.dst)=some t from ht];rw[Array.getD_eq_getD_getElem?] at hb;cases hx:a.tmps[t]? with
 | none=>simp[hx]
 | some v =>
  rw[hx] at hb;have hv:v=undef:=hb;subst hv;simp[hx,undef]
theorem Inv.slot(h:Inv c G s a w)(t:Nat){b b':Bool}(he:s.eval (.tmp t) = .aH ⟨.bool,b⟩)(hb:b=b'):Inv c G (s.put (some t) (.aH ⟨.bool,b'⟩)) a w:=by
 have:s.put (some t) (.aH ⟨.bool,b'⟩)=s\/(s.put (some t) (.aH ⟨.bool,b'⟩)).sl=s.sl:=by
  right;rw[a5I];funext i;unfold jV;split
  .rename_i hi;obtain⟨h1,h2⟩:=hi;simp only[b4L] at h1;subst h1;rw[<-hb,<-he];rfl
  .rfl
 rcases this with e|e
 .rw[e];exact h
 .unfold Inv;rw[e,ZL,TM];exact h
theorem EP(hE:bF c.P c.E){ops:Array Oper}{Q:aj->Prop}{o:Oper}{r:List Oper}{kn:List (Nat×Bool)}(h:Inv c G s a w)(hr:ft c.E ops (o::r) kn Q s) :
  if Region.wanted o (yielded ops a.tmps)=true then ∀ Q':Exit->Act->World->Prop,o.wp c.P a w (λ a' w'=>∃ G' s' oY,Inv c G' s' a' w'/\ft c.E ops r oY Q s') Q'
  else ∃ G' s' oY,Inv c G' s' (a.put o.dst undef) w/\ft c.E ops r oY Q s':=by
 have run:∀ (kn:List (Nat×Bool)) (s:aj),Inv c G s a w->lq c.E o (ft c.E ops r kn Q) s->∀ Q':Exit->Act->World->Prop,o.wp c.P a w (λ a' w'=>∃ G' s' oY,Inv c G' s' a' w'/\ft c.E ops r oY Q s') Q':=λ kn s hs cI Q' =>
  b6u (λ a' w' ⟨G',s',h1,h2⟩=>⟨G',s',kn,h1,h2⟩) (Q3 hE hs cI)
 have skip:∀ (kn:List (Nat×Bool)) (s:aj),Inv c G s a w->ft c.E ops r kn Q (s.put o.dst .ep)->∃ G' s' oY,Inv c G' s' (a.put o.dst undef) w/\ft c.E ops r oY Q s':=λ kn s hs hk =>
  ⟨G,_,kn,Inv.put (v := .ep) hs rfl,hk⟩
 simp only[ft] at hr;split at hr
 .rename_i hg;have hw:Region.wanted o (yielded ops a.tmps)=true:=by simp[Region.wanted,hg]
  rw[b5u hw];exact run kn s h hr
 .rename_i g want hg;split at hr
  .exact hr.elim
  .rename_i t ht;split at hr
   .rename_i b hb;split at hr
    .rename_i b' cU;have hx:=bp h (.tmp t);rw[cU] at hx;have hy:=Nx (s:=s) ht hx;split at hr
     .rename_i iG Ny;have iG:=eq_of_beq iG;subst iG;have hw:Region.wanted o (yielded ops a.tmps)=true:=by simp[Region.wanted,hg,hy];simpa using Ny
      rw[b5u hw];exact run kn s h hr
     .rename_i iG Ny;have iG:=eq_of_beq iG;subst iG;have hw:Region.wanted o (yielded ops a.tmps)=false:=by simp[Region.wanted,hg,hy];simpa using Ny
      rw[hw];exact skip kn s h hr
     .exact hr.elim
    .rename_i cU;have hx:=bp h (.tmp t);rw[cU] at hx;have hy:=IJ (s:=s) ht hx;have hw:Region.wanted o (yielded ops a.tmps)=false:=by simp[Region.wanted,hg,hy]
     rw[hw];exact skip kn s h hr
    .exact hr.elim
   .split at hr
    .rename_i b cU;have hx:=bp h (.tmp t);rw[cU] at hx;have hy:=Nx (s:=s) ht hx;by_cases Ny:b=want
     .have hw:Region.wanted o (yielded ops a.tmps)=true:=by simp[Region.wanted,hg,hy,Ny]
      rw[b5u hw];exact run _ _ (h.slot t cU Ny) (hr.1 Ny)
     .have Yu:b = !want:=by cases b<;>cases want<;>simp_all
      have hw:Region.wanted o (yielded ops a.tmps)=false:=by simp[Region.wanted,hg,hy,Yu]
      rw[hw];exact skip _ _ (h.slot t cU Yu) (hr.2 Yu)
    .rename_i cU;have hx:=bp h (.tmp t);rw[cU] at hx;have hy:=IJ (s:=s) ht hx;have hw:Region.wanted o (yielded ops a.tmps)=false:=by simp[Region.wanted,hg,hy]
     rw[hw];exact skip kn s h hr
    .exact hr.elim
theorem BV(hE:bF c.P c.E){ops:Array Oper}{Q:aj->Prop}{Q':Exit->Act->World->Prop}(hQ:∀ G s a w,Inv c G s a w->Q s->Q' .normal a w) :
  ∀ (r:List Oper) (i:Nat) (kn:List (Nat×Bool)) (G:Gh) (s:aj) (a:Act) (w:World),(∀ j o,r[j]?=some o->ops[i+j]?=some o)->Inv c G s a w->ft c.E ops r kn Q s->wpOps c.P ops Q' (List.range' i r.length) a w
 | [],i,kn,G,s,a,w,_,h,hr=>hQ G s a w h hr
 | o::r,i,kn,G,s,a,w,b0V,h,hr=>by
  have ho:ops[i]?=some o:=b0V 0 o rfl;have yH:∀ j p,r[j]?=some p->ops[i+1+j]?=some p:=λ j p hj=>by
   have:=b0V (j+1) p (by simpa using hj);rwa [show i+(j+1)=i+1+j by omega] at this
  simp only[b4Y,List.range'_succ,wpOps,ho];have lg:=EP hE h hr;split at lg
  .rename_i hw;rw[b5u hw];exact .inl (b6u (λ a' w' ⟨G',s',oY,h1,h2⟩=>BV hE hQ r (i+1) oY G' s' a' w' yH h1 h2) (lg Q'))
  .rename_i hw;rw[b4Z hw];obtain⟨G',s',oY,h1,h2⟩:=lg;exact BV hE hQ r (i+1) oY G' s' _ w yH h1 h2
end
structure Ru where
 LA:Bool
 v:AV
 ob:Option aB
def GV(want LA:Bool):AV->Prop
 | .aH ⟨.bool,b⟩=>LA=(b == want)
 | .ep=>LA=false
 | _=>False
def gq(l:List Oper)(bits:Nat)(s:aj)(o:Oper)(LA:Bool):Prop :=
 match o.guard with
 | none=>LA=true
 | some (g,want)=>∃ t v,cF l g=some t/\Nat.testBit bits g=true/\s.eval (.tmp t)=v/\GV want LA v
def Vx(E:Env)(l:List Oper)(m bits:Nat)(s:aj)(o:Oper)(e:Ru):Prop :=
 gq l bits s o e.LA/\(e.LA=true->∃ vc:Vc,Ol E (US l m bits s) (Yq l m bits s) o=some (vc,e.v,e.ob)/\vc.ok)/\(e.LA=false->e.v = .ep/\e.ob=none)
def Trace(E:Env)(l:List Oper)(m:Nat)(ck:List Nat):Nat->List Oper->List Ru->aj->aj->Prop
 | _,[],[],s,s'=>s=s'
 | i,o::r,e::es,s,s'=>Vx E l m (ck.getD i 0) s o e/\Trace E l m ck (i+1) r es (s.jF o.dst e.v e.ob) s'
 | _,_,_,_,_=>False
def Z0{s:aj}{t:Nat}{v:AV}(h:s.eval (.tmp t)=v)(hv:v ≠ .any):s.put (some t) v=s:=by
 have bK:t<s.aC.length:=by
  rcases b5Q t s.aC.length with hl|hl
  .exact hl
  .simp only[aj.eval,b5b,b6J hl,Option.getD_none] at h;exact absurd h.symm hv
 simp only[aj.eval,b5b,b5p bK,b7y] at h;simp only[aj.put];congr 1;subst h;exact b8C bK
def Sz(s:aj)(d:Option Nat):s.jF d .ep none=s.put d .ep:=by cases d<;>rfl
def sW{E:Env}{l:List Oper}{m:Nat}{ck:List Nat}{Q:List (Nat×Bool)->aj->Prop}:∀ {r:List Oper} {i:Nat} {kn:List (Nat×Bool)} {s:aj},mM E l m ck i r kn Q s ->
  ∃ es oY s',Trace E l m ck i r es s s'/\Q oY s'
 | [],i,kn,s,h=>⟨[],kn,s,rfl,h⟩
 | o::r,i,kn,s,h=>by
  have run:∀ kn,gq l (ck.getD i 0) s o true->Q4 E l m (ck.getD i 0) o (mM E l m ck (i+1) r kn Q) s->∃ es oY s',Trace E l m ck i (o::r) es s s'/\Q oY s':=by
   intro kn hg hr;unfold Q4 at hr;split at hr
   .split at hr
    .rename_i vc v ob hq;obtain⟨es,oY,s',h1,h2⟩:=sW (Vc.jX hr).2;exact⟨⟨true,v,ob⟩::es,oY,s',⟨⟨hg,λ _=>⟨vc,hq,(Vc.jX hr).1⟩,λ h=>(by cases h)⟩,h1⟩,h2⟩
    .exact hr.elim
   .exact hr.elim
  have skip:∀ kn,gq l (ck.getD i 0) s o false->mM E l m ck (i+1) r kn Q (s.put o.dst .ep)->∃ es oY s',Trace E l m ck i (o::r) es s s'/\Q oY s':=by
   intro kn hg hr;obtain⟨es,oY,s',h1,h2⟩:=sW hr;exact⟨⟨false, .ep,none⟩::es,oY,s',⟨⟨hg,λ h=>(by cases h),λ _=>⟨rfl,rfl⟩⟩,by rw[Sz];exact h1⟩,h2⟩
  simp only[mM] at h;split at h
  .rename_i hg;exact run kn (by simp[gq,hg]) h
  .rename_i g want hg;split at h
   .rename_i t ht ZC;split at h
    .rename_i b hb;split at h
     .rename_i b' cU;split at h
      .rename_i iG Ny;have iG:=eq_of_beq iG;subst iG;exact run kn (by simp only[gq,hg];exact⟨t,_,ht,ZC,cU,Ny.symm⟩) h
      .rename_i iG Ny;have iG:=eq_of_beq iG;subst iG;exact skip kn (by simp only[gq,hg];exact⟨t,_,ht,ZC,cU,Ny.symm⟩) h
      .exact h.elim
     .rename_i cU;exact skip kn (by simp only[gq,hg];exact⟨t,_,ht,ZC,cU,rfl⟩) h
     .exact h.elim
    .split at h
     .rename_i b cU;by_cases Ny:b=want
      .have h':=h.1 Ny;subst Ny;rw[Z0 cU (by simp)] at h';exact run _ (by simp only[gq,hg];exact⟨t,_,ht,ZC,cU,by simp[GV]⟩) h'
      .have Yu:b = !want:=by cases b<;>cases want<;>simp_all
       have h':=h.2 Yu;rw[<-Yu,Z0 cU (by simp)] at h';exact skip _ (by simp only[gq,hg];exact⟨t,_,ht,ZC,cU,by simpa [GV] using Ny⟩) h'
     .rename_i cU;exact skip kn (by simp only[gq,hg];exact⟨t,_,ht,ZC,cU,rfl⟩) h
     .exact h.elim
   .exact h.elim
def dR(l:List Oper)(es:List Ru)(s0:aj)(π:List Nat):aj :=
 π.foldl (λ s k=>s.jF (cF l k) (es.getD k ⟨false, .any,none⟩).v (es.getD k ⟨false, .any,none⟩).ob) s0
def SA(s:aj)(d:Option Nat)(v:AV)(o:Option aB):(s.jF d v o).aC.length=s.aC.length:=by cases d<;>simp[aj.jF]
def Qy(l:List Oper)(es:List Ru):∀ (π:List Nat) (s0:aj),(dR l es s0 π).aC.length=s0.aC.length
 | [],_=>rfl
 | k::π,s0=>by
  show (dR l es (s0.jF _ _ _) π).aC.length=_;rw[Qy l es π,SA]
def Q9(s:aj)(d:Option Nat)(v:AV)(o:Option aB):(s.jF d v o).sl=jV s.aC.length s.sl d v:=by
 cases d with
 | none=>funext i;simp[aj.jF,jV]
 | some d=>exact re s.aC d v _
def Fy(s:aj)(d:Option Nat)(v:AV)(o:Option aB)(j:Nat):(s.jF d v o).ah j=if d=some j then (match o with
  | some o=>some o
  | none=>s.ah j) else s.ah j:=by
 cases d with
 | none=>simp[aj.jF]
 | some d =>
  cases o with
  | none =>
   simp only[aj.jF,aj.ah,ite_self]
  | some o =>
   show ah ((d,o)::s.aJ) j=_;rw[dF];by_cases h:j=d
   .subst h;simp
   .have:¬ (some d=some j):=by simp;exact λ e=>h e.symm
    rw[b4Z h,b4Z this];rfl
def gK(l:List Oper)(es:List Ru)(t:Nat):∀ (π:List Nat) (s0:aj),(∀ k∈π,cF l k≠some t)->(dR l es s0 π).sl t=s0.sl t/\(dR l es s0 π).ah t=s0.ah t
 | [],_,_=>⟨rfl,rfl⟩
 | k::π,s0,h=>by
  obtain⟨h1,h2⟩:=gK l es t π (s0.jF (cF l k) (es.getD k ⟨false, .any,none⟩).v (es.getD k ⟨false, .any,none⟩).ob) (λ j hj=>h j (by simp[hj]));have hk:=h k (by simp);constructor
  .show (dR l es (s0.jF _ _ _) π).sl t=_;rw[h1,Q9,jV,b4Z (λ hh=>hk hh.1)]
  .show (dR l es (s0.jF _ _ _) π).ah t=_;rw[h2,Fy,b4Z hk]
def zT(l:List Oper)(es:List Ru)(t k:Nat)(hk:cF l k=some t):∀ (π:List Nat) (s0:aj),k∈π->π.Nodup->(∀ j∈π,j≠k->cF l j≠some t) ->
  (dR l es s0 π).sl t=(if t<s0.aC.length then (es.getD k ⟨false, .any,none⟩).v else s0.sl t) /\
  (dR l es s0 π).ah t=(match (es.getD k ⟨false, .any,none⟩).ob with
   | some o=>some o
   | none=>s0.ah t)
 | [],_,h,_,_=>by simp at h
 | j::π,s0,h,hn,ho=>by
  have Ci:=b5G.1 hn;by_cases hj:j=k
  .subst hj;obtain⟨h1,h2⟩:=gK l es t π (s0.jF (cF l j) (es.getD j ⟨false, .any,none⟩).v (es.getD j ⟨false, .any,none⟩).ob) (λ i hi=>ho i (by simp[hi]) (λ e=>by subst e;exact Ci.1 hi));constructor
   .show (dR l es (s0.jF _ _ _) π).sl t=_;rw[h1,Q9,jV];simp[hk]
   .show (dR l es (s0.jF _ _ _) π).ah t=_;rw[h2,Fy,b5u hk]
  .have Qd:=ho j (by simp) hj;obtain⟨h1,h2⟩:=zT l es t k hk π (s0.jF (cF l j) (es.getD j ⟨false, .any,none⟩).v (es.getD j ⟨false, .any,none⟩).ob) (by simpa [Ne.symm hj] using h) Ci.2 (λ i hi=>ho i (by simp[hi]));constructor
   .show (dR l es (s0.jF _ _ _) π).sl t=_;rw[h1,SA,Q9,jV,b4Z (c:=cF l j=some t/\_) (λ hh=>Qd hh.1)]
   .show (dR l es (s0.jF _ _ _) π).ah t=_;rw[h2];split
    .rfl
    .rw[Fy,b4Z Qd]
def X0{l:List Oper}{es:List Ru}{m bits:Nat}{s0:aj}{π π':List Nat}(qt:∀ j k t,j<m->k<m->cF l j=some t->cF l k=some t->j=k)
  (hπ:∀ k∈π,k<m) (WT:∀ k∈π',k<m) (hn:π.Nodup) (Ci:π'.Nodup) (ha:∀ k,k<m->Nat.testBit bits k=true->k∈π/\k∈π') (t:Nat) (hh:hidden l m bits t=false) :
  (dR l es s0 π).sl t=(dR l es s0 π').sl t/\(dR l es s0 π).ah t=(dR l es s0 π').ah t:=by
 by_cases hex:∃ k,k<m/\cF l k=some t
 .obtain⟨k,hk,hd⟩:=hex;have hb:Nat.testBit bits k=true:=by
   have:=hh;unfold hidden at this;rw[List.any_eq_false] at this;have:=this k (by simpa using hk);simp only[hd] at this;simp only[Nat.beq_refl] at this;simpa using this
  obtain⟨h1,h2⟩:=ha k hk hb;obtain⟨e1,e2⟩:=zT l es t k hd π s0 h1 hn (λ j hj eR Hu=>eR (qt j k t (hπ j hj) hk Hu hd));obtain⟨e3,e4⟩:=zT l es t k hd π' s0 h2 Ci (λ j hj eR Hu=>eR (qt j k t (WT j hj) hk Hu hd));exact⟨e1.trans e3.symm,e2.trans e4.symm⟩
 .have fM:∀ k,k<m->cF l k≠some t:=λ k hk hd=>hex ⟨k,hk,hd⟩;obtain⟨e1,e2⟩:=gK l es t π s0 (λ k hk=>fM k (hπ k hk));obtain⟨e3,e4⟩:=gK l es t π' s0 (λ k hk=>fM k (WT k hk));exact⟨e1.trans e3.symm,e2.trans e4.symm⟩
def JX(acc:List Nat)(k:Nat):∀ (es:List Edge) (s:Nat),Nat.testBit (es.foldl (xu acc) s) k=true->Nat.testBit s k=true\/∃ e∈es,Region.binds .any e=true/\(k=e.on\/Nat.testBit (acc.getD e.on 0) k=true)
 | [],s,h => .inl h
 | e::es,s,h=>by
  simp only[b6X] at h;rcases JX acc k es _ h with h|⟨e',Dy,h⟩
  .unfold xu at h;split at h
   .rename_i hb;simp only[Nat.testBit_or,b6G] at h;rcases h with h|h|h
    .exact .inl h
    .refine .inr ⟨e,by simp,hb, .inl ?_⟩;rw[Nat.one_shiftLeft,Nat.testBit_two_pow] at h;exact (b5E h).symm
    .exact .inr ⟨e,by simp,hb, .inr h⟩
   .exact .inl h
  .exact .inr ⟨e',by simp[Dy],h⟩
def Az:∀ (l:List Oper) (acc:List Nat),∃ r,bW l acc=acc++r/\r.length=l.length /\
  ∀ i o,l[i]?=some o->∀ k,Nat.testBit ((acc++r).getD (acc.length+i) 0) k=true->∃ e∈o.after.toList,Region.binds .any e=true/\(k=e.on\/(e.on<acc.length+i/\Nat.testBit ((acc++r).getD e.on 0) k=true))
 | [],acc=>⟨[],by simp[bW],rfl,by simp⟩
 | o::l,acc=>by
  simp only[bW];obtain⟨r,h1,h2,h3⟩:=Az l (acc++[o.after.toList.foldl (xu acc) 0]);refine⟨_::r,by rw[h1,b5O];rfl,by simp[h2],λ i p hp k hk=>?_⟩;cases i with
  | zero =>
   simp at hp;subst hp;have kM:Nat.testBit (o.after.toList.foldl (xu acc) 0) k=true:=by
    simpa [List.getD_eq_getElem?_getD] using hk
   rcases JX acc k _ 0 kM with h|⟨e,he,hb,h⟩
   .simp at h
   .refine⟨e,he,hb,h.imp id λ h=>?_⟩;have bK:e.on<acc.length:=by
     rcases b5Q e.on acc.length with hl|hl
     .exact hl
     .simp[b5b,b6J hl] at h
    refine⟨by omega,?_⟩;rw[b5b,b6V bK,<-b5b];exact h
  | succ i =>
   have:=h3 i p (by simpa using hp) k (by
    have e1:(acc++[o.after.toList.foldl (xu acc) 0]).length+i=acc.length+(i+1):=by simp;omega
    rw[e1,b5O];exact hk)
   obtain⟨e,he,hb,h⟩:=this;refine⟨e,he,hb,h.imp id λ ⟨h1,h2⟩=>⟨by simp at h1;omega,?_⟩⟩;rw[b5O] at h2;exact h2
def CB:∀ (l:List Nat) (i m0:Nat),m0<=i->oh l i m0<=i+l.length/\m0<=oh l i m0/\∀ j b,l[j]?=some b->oh l i m0<=i+j->b+1=2 ^ (i+j)
 | [],i,m0,h=>by simp[oh];exact h
 | b::l,i,m0,h=>by
  simp only[oh];split
  .rename_i hb;have hb:=b4O hb;obtain⟨h1,h2,h3⟩:=CB l (i+1) m0 (by omega);refine⟨by simp;omega,h2,λ j b' hj hle=>?_⟩;cases j with
   | zero=>simp at hj;subst hj;exact hb
   | succ j=>rw[show i+(j+1)=i+1+j by omega];exact h3 j b' (by simpa using hj) (by omega)
  .obtain⟨h1,h2,h3⟩:=CB l (i+1) (i+1) (b5w _);refine⟨by simp;omega,by omega,λ j b' hj hle=>?_⟩;cases j with
   | zero=>omega
   | succ j=>rw[show i+(j+1)=i+1+j by omega];exact h3 j b' (by simpa using hj) (by omega)
end Go.Proofs.YtmjfpcajohhbeaaGreatDoor

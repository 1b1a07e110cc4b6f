/- VmEff, VmTree, VmMark, VmOwnOps, VmBuild, VmBuild2, VmSt, VmStep, VmDraw, VmDraw2. -/
import Derived.Test.YtmjfpcajohhbeaaGreatDoorVmOps
import Derived.Eval
set_option linter.all false
namespace Go.Proofs.YtmjfpcajohhbeaaGreatDoor
def b3V:=@List.getD_eq_getElem?_getD
def b5Y:=@Array.eq_empty_of_size_eq_zero
def b7E:=@Go.setRow_heap
def b5Q:=@List.drop_eq_nil_of_le
def b5e:=@List.length_set
def b5B:=@List.map_append
def b5k:=@Go.Value.tuple.injEq
def b7f:=@List.toArray_inj
def b5m:=@List.mem_cons_of_mem
def b4h:=@List.nodup_append
def b4U:=@List.cons_append
def b4Q:=@List.nodup_nil
def b4x:=@List.nodup_cons
def b4S:=@List.take_append_drop
def b6G:=@List.map_set
def b5H:=@List.getElem?_eq_none
def b5s:=@Bool.or_eq_true
def b5X:=@Nat.lt_irrefl
def b7z:=@Array.toList_append
def b5Z:=@List.mem_cons_self
def b6t:=@Classical.byContradiction
def b6C:=@List.nodup_range
def b6a:=@List.Nodup.length_le_of_subset
def b5j:=@Go.Oper.wp_mono
def b7g:=@Option.getD_some
def b6H:=@List.foldl_cons
def b6e:=@List.singleton_append
def b5M:=@List.length_erase_of_mem
def b5R:=@List.length_pos_of_mem
theorem Kl(f:aD->aD):∀ (l:List (Nat×aD)) (j:Nat),af (l.map λ p=>(p.1,f p.2)) j=(af l j).map f
 | [],_=>rfl
 | (k,o)::r,j=>by
  simp only[b4A,af];split
  .rfl
  .exact Kl f r j
theorem eC(id:Nat):∀ (l:List (Nat×aD)) (j:Nat),af (bS id l) j=if j=id then none else af l j
 | [],_=>by simp[bS,af]
 | (k,o)::r,j=>by
  simp only[bS];split
  .rename_i h;have h:=b3G h;subst h;rw[eC k r j];by_cases hj:j=k
   .simp[hj]
   .rw[b3R hj,b3R hj];simp only[af];split
    .rename_i h;exact absurd (b3G h).symm hj
    .rfl
  .rename_i h;have hk:k≠id:=λ e=>by subst e;simp at h
   simp only[af];split
   .rename_i h';have h':=b3G h';subst h';rw[b3R hk]
   .exact eC id r j
theorem dB(k:Nat)(o:aD)(l:List (Nat×aD))(j:Nat):af ((k,o)::l) j=if j=k then some o else af l j:=by
 simp only[af];split
 .rename_i h;rw[b4n (b3G h).symm]
 .rename_i h;have:j≠k:=λ e=>by subst e;simp at h
  rw[b3R this]
theorem sy(l:List AV)(d:Nat)(v:AV)(o:List (Nat×aD)):ah.sl ⟨l.set d v,o⟩=j9 l.length (ah.sl ⟨l,o⟩) (some d) v:=by
 funext i;simp only[ah.sl,j9,b3V,b6z,b3C];by_cases h:d=i
 .subst h;by_cases hl:d<l.length
  .simp[hl]
  .simp[hl]
 .simp[h]
theorem a5x(s:ah)(d:Option Nat)(v:AV):(s.put d v).sl=j9 s.aB.length s.sl d v:=by
 cases d with
 | none=>funext i;simp[ah.put,j9]
 | some d=>exact sy s.aB d v s.aN
theorem Z7(s:ah)(d:Option Nat)(v:AV):(s.put d v).af=s.af:=by cases d<;>rfl
theorem T4(s:ah)(d:Option Nat)(v:AV):(s.put d v).aB.length=s.aB.length:=by cases d<;>simp[ah.put]
theorem a0s(s:ah)(id:Nat):(s.cp id).sl=λ i=>(s.sl i).kill id:=by
 funext i;simp only[ah.sl,ah.cp,b3V,b5z];cases s.aB[i]?<;>simp[AV.kill,AV.refs]
theorem ef(s:ah)(id:Nat):(s.cp id).af=λ i=>(s.af i).map (aD.kill id):=by
 funext i;exact Kl _ _ _
section
variable {c:Ctx} {G:Gh} {s:ah} {a:Act} {w w':World}
theorem Inv.put(h:Inv c G s a w){d:Option Nat}{v:AV}{x:Value}(hv:VR c G s.af w v x):Inv c G (s.put d v) (a.put d x) w:=by
 unfold Inv;rw[a5x,Z7,T4];exact bw.put h hv
theorem Inv.clear(h:Inv c G s a w)(id:Nat):bw c G (s.cp id).sl s.aB.length (λ i=>if i=id then none else (s.cp id).af i) a w /\
  (∀ i,((s.cp id).sl i).refs id=false)/\∀ i o,(s.cp id).af i=some o->o.refs id=false:=by
 have h1:=bw.cp h id;have hs:∀ i,((s.cp id).sl i).refs id=false:=λ i=>by rw[a0s];exact Gn id _
 have ho:∀ i o,(s.cp id).af i=some o->o.refs id=false:=λ i o cE=>by
  rw[ef] at cE;simp only[b4D] at cE;obtain⟨o',_,rfl⟩:=cE;cases o' with
  | box cs=>exact JT id cs
  | row e τ xs=>rfl
  | aw τ xs=>rfl
  | map m=>rfl
 refine⟨?_,hs,ho⟩;rw[a0s,ef];exact bw.a8P h1 id (λ i=>Gn id _) (λ i o cE _=>by
  have:=ho i o (by rw[ef];exact cE);exact this)
theorem Y2(id:Nat)(o:aD):(o.kill id).refs id=false:=by
 cases o with
 | box cs=>exact JT id cs
 | row e τ xs=>rfl
 | aw τ xs=>rfl
 | map m=>rfl
theorem Inv.a5e(h:Inv c G s a w){id:Nat}{v:AV}{o:aD}{x:Value}(bN:id<400000)(hN:a4F c G s.af w x o)(hL:LV (some id) v o)
  (jw:∀ b,ew x=some b->(c.w0.heap.size<=b\/c.X b)/\¬ G.S b/\b<w.heap.size/\(∀ i o',i≠id->s.af i=some o'->ew (G.η i)≠some b)/\∀ j τ xs,s.af j=some (.aw τ xs)->b∉G.φ j) :
  Inv c ⟨G.S,λ i=>if i=id then x else G.η i,G.φ⟩ (s.lay (some id) v (some o)) (a.put (some id) x) w:=by
 obtain⟨h1,h2,h3⟩:=h.clear id;have cF:(s.lay (some id) v (some o)).af=λ i=>if i=id then some (o.kill id) else (if i=id then none else (s.cp id).af i):=by
  funext i;show af ((id,o.kill id)::bS id (s.cp id).aN) i=_;rw[dB,eC];rfl
 have Lf:(s.lay (some id) v (some o)).sl=j9 s.aB.length (s.cp id).sl (some id) v:=by
  have:=sy (s.cp id).aB id v ((id,o.kill id)::bS id (s.cp id).aN);rw[show (s.cp id).aB.length=s.aB.length from by simp[ah.cp]] at this;exact this
 have hlen:(s.lay (some id) v (some o)).aB.length=s.aB.length:=by simp[ah.lay,ah.cp]
 have sN:OR c ⟨G.S,λ i=>if i=id then x else G.η i,G.φ⟩ (λ i=>if i=id then some (o.kill id) else (if i=id then none else (s.cp id).af i)) w id (o.kill id):=by
  cases o with
  | box cs =>
   obtain⟨b,l,t,k1,k2,k3⟩:=hN;refine⟨b,l,t,by simp[k1],k2,aV.ej _ (k3.imp λ u y _ hy=>?_)⟩;refine (hy.kill id).mono (λ j hj=>?_) (λ _ h=>h) (λ _ _=>rfl);have eZ:j≠id:=λ e=>by subst e;rw[Gn] at hj;cases hj
   simp only[b3R eZ];exact⟨by rw[ef];exact Ot id _,U⟩
  | row e τ xs =>
   obtain⟨l,k1,k2,k3⟩:=hN;exact⟨l,by simpa using k1,k2,k3⟩
  | aw τ xs=>exact hN.elim
  | map m =>
   obtain⟨b,es,clock,k1,k2,k3⟩:=hN;exact⟨b,es,clock,by simp[k1],k2,k3⟩
 have hot:cx (some (o.kill id))=false:=by
  cases o with
  | aw τ xs=>exact hN.elim
  | _=>rfl
 have h4:=bw.newObj h1 id (o.kill id) x (by simp) h2 (λ i p y8=>by
  by_cases hi:i=id
  .simp[hi] at y8
  .rw[b3R hi] at y8;exact h3 i p y8) (Y2 id o) sN hot (.inr bN) (λ b hb=>by
  obtain⟨q1,q2,q3,q4,q5⟩:=jw b hb;refine⟨q1,q2,q3,λ i p y8=>?_,λ j τ xs hj=>?_⟩
  .by_cases hi:i=id
   .simp[hi] at y8
   .rw[b3R hi,ef] at y8;simp only[b4D] at y8;obtain⟨p',W8,_⟩:=y8;exact q4 i p' hi W8
  .by_cases hi:j=id
   .simp[hi] at hj
   .rw[b3R hi,ef] at hj;exact q5 j τ xs (jE hj))
 unfold Inv;rw[Lf,cF,hlen];refine bw.put h4 ?_;cases o with
 | box cs =>
  obtain⟨i,hi,rfl⟩:=hL;simp only[b3C] at hi;subst hi;obtain⟨b,l,t,k1,k2,k3⟩:=hN;exact⟨b,by simp[k1],k1,by simp[aD.kill,fZ]⟩
 | row e τ xs =>
  obtain⟨i,hi,rfl⟩:=hL;simp only[b3C] at hi;subst hi;obtain⟨l,k1,k2,k3⟩:=hN;refine⟨by simp,by simp[aD.kill,isRow],?_⟩;rcases k1.2 with ⟨rfl,_⟩|⟨g,cap,cur,rfl,_⟩
  .exact⟨_,_,_,rfl⟩
  .exact⟨_,_,_,rfl⟩
 | aw τ xs=>exact hN.elim
 | map m =>
  obtain⟨i,hi,rfl⟩:=hL;simp only[b3C] at hi;subst hi;obtain⟨b,es,clock,k1,k2,k3⟩:=hN;exact⟨by simp,by simp[aD.kill,NL],b,k1⟩
theorem XD(h0:Inv c G s a w){d:Option Nat}(Nz:wK d=true){v:AV}{ob:Option aD}{a':Act}(h:BV c G s.sl s.aB.length s.af d a w v ob a' w'):∃ G',Inv c G' (s.lay d v ob) a' w':=by
 obtain⟨x,S',rfl,hI,hx⟩:=h;cases ob with
 | none=>exact⟨_,by cases d<;>exact Inv.put (s:=s) hI hx⟩
 | some o =>
  obtain⟨hL,hN,hb⟩:=hx;have hd:∃ i,d=some i:=by cases o<;>first|exact⟨_,hL.choose_spec.1⟩|exact hL.elim
  obtain⟨i,rfl⟩:=hd;refine⟨_,Inv.a5e (s:=s) hI (b4w Nz) hN hL λ b RZ=>?_⟩;obtain⟨h1,h2,h3⟩:=hb b RZ;have hle:=h0.aR.size;refine⟨by omega,h3,h2,λ j o' _ hj Uy=>?_,λ j τ xs hj Uy=>?_⟩
  .have:=(h0.place j o' b hj Uy).2.2;omega
  .have:=(h0.aP.pl j τ xs b hj Uy).2.2.1;omega
theorem a1T{k:IntKind}{n:Int}(h:Wu k n=true):k.min<=n/\n<=k.max:=by
 unfold Wu at h;split at h
 .rename_i m;split at h<;>have h:=b4w h<;>try (simp[IntKind.min,IntKind.max,IntKind.signed,IntKind.bits];omega)
  cases k<;>simp_all [IntKind.min,IntKind.max,IntKind.signed,IntKind.bits]<;>omega
 .rename_i m;split at h
  .have h:=b4w h;simp[IntKind.min,IntKind.max,IntKind.signed,IntKind.bits];omega
  .cases h
theorem LS(lk:Nat->Option aD)(v:Value):C1 c G lk w (Pp v) v:=by
 unfold Pp;split
 .split
  .rename_i h;exact⟨rfl,rfl,a1T h⟩
  .trivial
 .exact⟨rfl,rfl⟩
 .split
  .rename_i sv _ h;have h:=b4w h;exact⟨rfl,sv,rfl,rfl,by have:sv.size=sv.data.size:=rfl;omega⟩
  .trivial
 .rfl
 .trivial
theorem bx(h:Inv c G s a w)(x:Operand):VR c G s.af w (s.eval x) (a.eval x):=by
 cases x with
 | tmp t=>exact h.aB t
 | const v =>
  simp only[ah.eval,Act.eval];unfold a1S;split
  .rename_i cs;refine⟨cs.toList,rfl,aV.ej _ ?_⟩;have:∀ l:List Value,aV (λ u y=>C1 c G s.af w (Pp u) y) l l:=by
    intro l;induction l with
    | nil=>trivial
    | cons u r ih=>exact⟨LS _ u,ih⟩
   exact this _
  .rename_i cs;split
   .rename_i hz;have:cs = #[]:=b5Y (b3G hz);subst this;exact rfl
   .trivial
  .exact (LS _ v).gu
 | global g=>trivial
 | func f=>rfl
theorem nz{g:Nat}{old cs:Array Value}{t:TypeId}{fr:Nat×Nat}(w:World)(hg:w.heap[g]?=some (.cells old t fr))(k:Nat)(hk:k≠g):(w.setRow g cs).heap[k]?=w.heap[k]?:=setRow_other w g k cs hk
theorem zj(hE:bH c.P c.E){T:TypeId}{τ:Ty}{b e:Nat}(hT:af c.E.ty T=some (τ,b,e)){g o:Nat}{l:List Value}{t:TypeId}{x:Value}(hg:w.heap[g]?=some (.cells l.toArray t (0,0)))
  (hx:x.cells.toList.length=τ.size) (h1:∀ u∈x.cells.toList,u.oneCell'=true) (EL:o+τ.size<=l.length) :
  (Instr.storeAt T (.pointer (some ⟨g,o,none⟩)) x).run c.P w = .ok () (w.setRow g (l.take o++x.cells.toList++l.drop (o+τ.size)).toArray):=by
 have hn:¬ (x.cells.size≠τ.size):=by simpa using hx
 simp only[Instr.storeAt,Instr.sureAddr,storeVar,Sem.run_bind,Sem.run_pure,Result.andThen_ok,hE.sizeOf hT,if_neg hn];have:=run_storeCells_at c.P g o t x.cells.toList 0 l.toArray w hg (by simp at hx ⊢;omega) h1;simpa [hx] using this
theorem Zd{cs new dA:List AV}{off:Nat}(h:putCells cs off new=some dA):off+new.length<=cs.length/\dA=cs.take off++(new++cs.drop (off+new.length)):=by
 unfold putCells at h;split at h
 .rename_i hb;simp only[b3C] at h;exact⟨b4w hb,h.symm⟩
 .cases h
theorem Inv.store(hE:bH c.P c.E)(h:Inv c G s a w){T:TypeId}{τ:Ty}{bt e:Nat}(hT:af c.E.ty T=some (τ,bt,e)){id off:Nat}{cs new dA:List AV}{x p:Value}(aX:s.af id=some (.box cs))(hp:VR c G s.af w (.ptr id off) p)
  (sN:∃ v,cellsOf τ v=some new/\VR c G s.af w v x) (EO:putCells cs off new=some dA) :
  ∃ w',(Instr.storeAt T p x).run c.P w = .ok () w'/\Inv c G { s with aN:=(id, .box dA)::bS id s.aN } a w':=by
 obtain⟨v,hv,hx⟩:=sN;obtain⟨h1,h2,h3⟩:=De hv hx;obtain⟨h4,rfl⟩:=Zd EO;obtain⟨b,k1,rfl,_⟩:=hp;obtain⟨b',l,t,k2,k3,k4⟩:=h.aN id _ aX;rw[k1] at k2;simp only[b6p,b3C,b5E,b3T] at k2;subst k2;have hlen:=h1.length;have hll:=k4.length;have cH:=zj (c:=c) hE hT (o:=off) (x:=x) k3 (by omega) h2 (by omega);refine⟨_,cH,?_⟩;have Lf:ah.sl { s with aN:=(id, .box (cs.take off++(new++cs.drop (off+new.length))))::bS id s.aN }=s.sl:=rfl;have cF:ah.af { s with aN:=(id, .box (cs.take off++(new++cs.drop (off+new.length))))::bS id s.aN }=λ i=>if i=id then some (.box (cs.take off++(new++cs.drop (off+new.length)))) else s.af i:=by
  funext i;show af (_::bS id s.aN) i=_;rw[dB,eC];by_cases hi:i=id
  .simp[hi]
  .simp[hi];rfl
 unfold Inv;rw[Lf,cF];have cv:∀ k,St c G.S k->(w.setRow b (l.take off++x.cells.toList++l.drop (off+τ.size)).toArray).heap[k]?=w.heap[k]?:=λ k hk=>nz w k3 k λ e=>by
  subst e;obtain⟨q1,q2,q3⟩:=h.place id _ k aX (by rw[k1];rfl);rcases hk with hk|hk
  .exact q2 hk
  .exact q1.elim (λ q=>by omega) hk.2.1
 have e9:∀ j,eF (s.af j) ((λ i=>if i=id then some (aD.box (cs.take off++(new++cs.drop (off+new.length)))) else s.af i) j):=λ j=>by
  by_cases hj:j=id
  .subst hj;simp only[b5y];exact⟨λ _=>rfl,(λ e τ xs hh=>by rw[aX] at hh;cases hh),(λ hh=>by rw[aX] at hh;cases hh),λ hh=>by rw[aX] at hh;cases hh⟩
  .simp only[b3R hj];exact eF.refl _
 refine bw.a1h h id _ _ b aX (by rw[k1];rfl) ⟨λ _=>rfl,(λ e τ xs hh=>by cases hh),(λ hh=>by cases hh),λ hh=>by cases hh⟩ rfl (λ k hk=>nz w k3 k hk) rfl rfl rfl (by simp[World.setRow]) ?_;refine⟨b,_,t,k1,b7E w b _ _ t _ k3,?_⟩;have key:aV (C1 c G s.af w) (cs.take off++(new++cs.drop (off+new.length))) (l.take off++x.cells.toList++l.drop (off+τ.size)):=by
  rw[b4H,<-h3];exact aV.append (k4.take off) (aV.append h1 (k4.drop _))
 exact key.imp λ u y _ hy=>hy.mono (λ j _=>⟨e9 j,rfl⟩) (λ _ h=>h) cv
theorem XG(cur cI:List Value)(o sz N:Nat)(hv:cI.length=sz)(hN:o+sz<=N)(hc:N<=cur.length) :
  (cur.take o++cI++cur.drop (o+sz)).take N=(cur.take N).take o++cI++(cur.take N).drop (o+sz):=by
 have h1:(cur.take o++cI).length=o+sz:=by simp[hv];omega
 rw[b7e,h1,b4a (by omega),List.take_take,Nat.min_eq_left (by omega),List.drop_take]
theorem dT.b0j{S:Nat->Prop}{n:Nat}{d':D}{c':List Value}(hd:Rd w S d' c')(Ds:c'.length=n):∀ (ds:List D) {l:List Value} (i:Nat),dT w S ds l->(∀ d∈ds,d.size=n)->i<ds.length->dT w S (ds.set i d') (l.take (i * n)++c'++l.drop (i * n+n))
 | [],l,i,_,_,hi=>by simp at hi
 | e::ds,l,0,h,hn,_=>by
  obtain⟨c1,r,rfl,h2,h3⟩:=h;have hc:c1.length=n:=by rw[Rd.length _ h2];exact hn _ (by simp)
  refine⟨c',r,?_,hd,h3⟩;simp only[b6E,b4I,b4i,b5n];rw[<-hc,b5U]
 | e::ds,l,i+1,h,hn,hi=>by
  obtain⟨c1,r,rfl,h2,h3⟩:=h;have hc:c1.length=n:=by rw[Rd.length _ h2];exact hn _ (by simp)
  refine⟨c1,r.take (i * n)++c'++r.drop (i * n+n),?_,h2,dT.b0j hd Ds ds i h3 (λ d hd=>hn d (by simp[hd])) (by simpa using hi)⟩;have e1:(i+1) * n=c1.length+i * n:=by rw[Nat.add_mul,hc];omega
  rw[e1,b7e,b4a (by omega),show c1.length+i * n - c1.length=i * n by omega,b6A,List.drop_append,b5Q (by omega),b4i,
   show c1.length+(i * n+n) - c1.length=i * n+n by omega]
  simp
theorem Inv.a6u(hE:bH c.P c.E)(h:Inv c G s a w){T:TypeId}{τ:Ty}{bt e:Nat}(hT:af c.E.ty T=some (τ,bt,e)){id i:Nat}{e':TypeId}{xs:List τ.den}{v:AV}{y:τ.den}{x p:Value}(aX:s.af id=some (.row e' τ xs))
  (hp:VR c G s.af w (.eB id i 0) p) (hx:VR c G s.af w v x) (hy:Hr (λ _=>none) τ v=some y) :
  ∃ w',(Instr.storeAt T p x).run c.P w = .ok () w'/\Inv c G { s with aN:=(id, .row e' τ (xs.set i y))::bS id s.aN } a w':=by
 obtain⟨b,n,cap,e1,Zl,Zk,k1,k2,k3,rfl⟩:=hp;rw[aX] at k2;simp only[b3C,aD.row.injEq] at k2;obtain⟨rfl,rfl,k2⟩:=k2;have k2:=b7k k2;subst k2;have hr:=(OW hy hx).cells;have xp:x.cells.toList.length=τ.size:=by
  have:=Rd.length _ hr;rwa [show TV.aQ ⟨τ,y⟩=τ.aQ y from rfl,Ty.cP] at this
 have I4:∀ u∈x.cells.toList,u.oneCell'=true:=Rd.nI (x:=y) hr;obtain⟨l,m1,m2,m3⟩:=h.aN id _ aX;have cM:∀ d∈xs.map τ.aQ,d.size=τ.size:=by
  intro d hd;obtain⟨z,_,rfl⟩:=b3N.1 hd;exact Ty.cP τ z
 have hll:=dT.length _ m2 cM;simp only[b3Y] at hll;have EL:i * τ.size+τ.size<=xs.length * τ.size:=by
  have:=b5L τ.size (show i+1<=xs.length by omega);rw[b4X] at this;omega
 rcases m1.2 with ⟨hv,_⟩|⟨g,ZA,cur,hv,_,hh,Uz,hcm,kr,htk⟩
 .rw[k1] at hv;cases hv
 .rw[k1] at hv;simp only[b5q,b3C,b5E,b3T] at hv;obtain⟨rfl,rfl,rfl⟩:=hv;have F6:xs.length * τ.size<=cur.toList.length:=by
   rw[b4K (xs:=cur),kr];exact b5L _ Uz
  have cH:=zj (c:=c) (l:=cur.toList) hE hT (o:=i * τ.size+0) (x:=x) (by simpa using hh) xp I4 (by omega);refine⟨_,cH,?_⟩;have cF:ah.af { s with aN:=(id, .row e' τ (xs.set i y))::bS id s.aN }=λ j=>if j=id then some (.row e' τ (xs.set i y)) else s.af j:=by
   funext j;show af (_::bS id s.aN) j=_;rw[dB,eC];by_cases hj:j=id
   .simp[hj]
   .simp[hj];rfl
  unfold Inv;rw[cF];refine bw.a1h h id _ _ b aX (by rw[k1];rfl) ⟨λ hh=>(by cases hh),λ e2 lj nN hh=>?_,(λ hh=>by cases hh),λ hh=>by cases hh⟩ rfl (λ k hk=>nz w hh k hk) rfl rfl rfl (by simp[World.setRow]) ?_
  .simp only[b3C,aD.row.injEq] at hh;obtain⟨rfl,rfl,hh⟩:=hh;have hh:=b7k hh;subst hh;exact⟨_,_,rfl,by simp⟩
  .refine⟨(l.take (i * τ.size)++x.cells.toList++l.drop (i * τ.size+τ.size)),⟨?_, .inr ⟨b,cap,_,by simpa using k1,Nat.zero_le _,setRow_heap w b cur _ e' _ hh,by simpa using Uz,hcm,?_,?_⟩⟩,?_,by simpa using m3⟩
   .rw[b5e,b3U,b3U,b4e,b4V,xp,hll];omega
   .rw[List.size_toArray,b3U,b3U,b4e,b4V,xp,<-kr,<-b4K (xs:=cur)];omega
   .simp only[b5D,b5e];rw[XG _ _ _ _ _ xp EL F6,htk]
   .rw[List.map_set];have:=dT.b0j hr (by rw[xp]) _ i m2 cM (by simpa using k3);refine dT.aR (λ _ h=>h) (λ k hk=>nz w hh k λ e=>?_) _ this;subst e;exact (h.place id _ k aX (by rw[k1];rfl)).2.1 hk
theorem Inv.VJ(hE:bH c.P c.E)(h:Inv c G s a w){T:TypeId}{κ ε:Ty}(hT:af c.E.mty T=some (κ,ε)){id:Nat}{f:κ.den->Option ε.den}{n:Nat}(aX:s.af id=some (.map ⟨κ,ε,f,n⟩))
  {k:κ.den} {x:ε.den} {p y z:Value} (hp:VR c G s.af w (.mp id) p) (hy:eK w G.S ⟨κ,k⟩ y) (hz:eK w G.S ⟨ε,x⟩ z) (hn:n<1000000000) :
  ∃ w',(Instr.mapUpdate T p y z).run c.P w = .ok () w'/\Inv c G { s with aN:=(id, .map ⟨κ,ε,Mg f k x,T9 (f k) n⟩)::bS id s.aN } a w':=by
 obtain⟨kT,eT,u1,u2,u3,u4,_⟩:=hE.map hT w;obtain⟨b,es,clock,k1,k2,k3⟩:=h.aN id _ aX;have sc:∀ {τ:Ty} {q:τ.den} {v:Value},τ.key=true->eK w G.S ⟨τ,q⟩ v->yV τ q v:=λ {τ q v} hs hv=>by
  refine yV.of (w:=w) (S:=G.S) hs ?_;cases τ with
  | int _=>exact hv
  | bool=>exact hv
  | str=>exact hv
  | _=>cases hs
 obtain⟨es',VC,m1,m2⟩:=k3.store (P:=c.P) u1 u2 k2 (sc u3 hy) (sc u4 hz) hn;obtain⟨hp1,_⟩:=hp;refine⟨_,by rw[hp1,k1];exact m1,?_⟩;have cF:ah.af { s with aN:=(id, .map ⟨κ,ε,Mg f k x,T9 (f k) n⟩)::bS id s.aN }=λ i=>if i=id then some (.map ⟨κ,ε,Mg f k x,T9 (f k) n⟩) else s.af i:=by
  funext i;show af ((id,_)::bS id s.aN) i=_;rw[dB,eC];by_cases hi:i=id
  .simp[hi]
  .simp[hi];rfl
 unfold Inv;rw[cF];obtain⟨q1,q2⟩:=MapKept.heap_set (o' := .map es' VC) k2;refine bw.a1h h id _ _ b aX (by rw[k1];rfl) ⟨λ hh=>(by cases hh),(λ e τ xs hh=>by cases hh),(λ hh=>by cases hh),λ _=>rfl⟩ rfl q2 rfl rfl rfl (by simp) ?_;exact⟨b,es',VC,k1,q1,m2⟩
theorem Inv.append(hE:bH c.P c.E)(h:Inv c G s a w){T:TypeId}{τ:Ty}{bt e id d:Nat}(hT:af c.E.ty T=some (.slice τ,bt,e)){xs ys:List τ.den}{y:AV}{v z:Value}(aX:s.af id=some (.row e τ xs))
  (hv:VR c G s.af w (.row id) v) (hz:VR c G s.af w y z) (hy:jR (QE s.af) (.slice τ) y=some ys) (F9:aY (xs.length+ys.length) bt) (ty:TypeId) :
  ∃ v' w' G',(Builtin.append_ #[T,T] ty #[v,z]).run c.P w = .ok v' w' /\
   Inv c G' { aB:=(s.cp id).aB.set d (.row id),aN:=(id, .row e τ (xs++ys))::bS id (s.cp id).aN } (a.put (some d) v') w':=by
 obtain⟨rfl,_,_⟩:=hv;have hzc:C1 c G s.af w y z:=by
  refine hz.a0t ?_;cases y with
  | aI u =>
   have e:=TV.aW hy;subst e;rfl
  | nil=>rfl
  | row i=>rfl
  | aw i=>rfl
  | _=>cases hy
 obtain⟨l,m1,m2,m3⟩:=h.aN id _ aX;obtain⟨v',w',news,k1,k2,k3,k4,k5,k6⟩:=TF (w:=w) (base:=0) hE hT m1 (b4O _) (a4I h.aN (Jz λ _ _ h=>h) a2B hy hzc) F9 ty;have UB:=uC m1;have b0b:=uC k2;obtain⟨h1,h2,h3⟩:=h.clear id;have eQ:∀ b,ew (G.η id)=some b->(c.w0.heap.size<=b\/c.X b)/\¬ G.S b/\b<w.heap.size:=λ b hb=>h.place id _ b aX hb;have hw:∀ b,b<w.heap.size->ew (G.η id)≠some b->w'.heap[b]?=w.heap[b]?:=λ b hb eZ=>k3.block b hb (by rw[UB];exact λ e=>eZ e.symm);have cv:∀ b,St c G.S b->w'.heap[b]?=w.heap[b]?:=λ b hb=>by
  refine hw b ?_ λ e=>?_
  .rcases hb with hb|hb
   .exact h.dH b hb
   .exact b3X hb.1 h.aR.size
  .obtain⟨q1,q2,q3⟩:=eQ b e;rcases hb with hb|hb
   .exact q2 hb
   .exact q1.elim (λ q=>by omega) hb.2.1
 have b2B:∀ j τ xs b,s.af j=some (.aw τ xs)->b∈G.φ j->w'.heap[b]?=w.heap[b]?:=λ j τ xs b hj hb =>
  hw b (h.aP.pl j τ xs b hj hb).2.2.1 ((h.aP.pl j τ xs b hj hb).2.2.2 id _ aX)
 have EN:∀ j o b,j≠id->s.af j=some o->ew (G.η j)=some b->w'.heap[b]?=w.heap[b]?:=λ j o b hj ho hb=>by
  refine hw b (h.place j o b ho hb).2.2 λ e=>?_;exact hj (h.apart j id o _ b ho aX hb e)
 have h4:bw c ⟨G.S,G.η,G.φ⟩ (s.cp id).sl s.aB.length (λ i=>if i=id then none else (s.cp id).af i) a w':=by
  refine h1.world (S':=G.S) ⟨k3.os,k3.tape,k3.output,k3.size,λ b hb hx=>hw b hb λ e=>hx (eQ b e).1⟩ (λ _ h=>h) (λ _ _=>b5G) h1.sX (λ b hb=>b3X (h1.dH b hb) k3.size) cv ?_ (λ j τ xs b hj hb=>by
   by_cases xo:j=id
   .simp[xo] at hj
   .rw[b3R xo,ef] at hj;exact b2B j τ xs b (jE hj) hb)
  intro j o b hj hb;by_cases xo:j=id
  .simp[xo] at hj
  .rw[b3R xo,ef] at hj;simp only[b4D] at hj;obtain⟨o',cN,_⟩:=hj;exact EN j o' b xo cN hb
 have b0R:((xs++ys).length)=xs.length+ys.length:=by simp
 have h5:=bw.newObj h4 id (.row e τ (xs++ys)) v' (by simp) h2 (λ i p y8=>by
  by_cases hi:i=id
  .simp[hi] at y8
  .rw[if_neg hi] at y8;exact h3 i p y8) rfl ⟨l++news,by simpa using k2,by
    rw[b5B];exact dT.append _ _ (dT.aR (λ _ h=>h) (λ b hb=>cv b (.inl hb)) _ m2) (dT.aR (λ _ h=>h) (λ b hb=>cv b (.inl hb)) _ k5),by rw[b0R];exact k6⟩ rfl (.inl rfl) (λ b hb=>by
  have bN:=(k2.lt b (b0b.trans hb)).2;have Az:ew (G.η id)=some b\/b=w.heap.size:=by
   rw[<-b0b,] at hb;rcases k4 with q|q
   .left;rw[<-UB,<-q];exact hb
   .right;rw[q] at hb;exact (b6r hb).symm
  refine⟨?_,?_,bN,λ j p hjp Uy=>?_,λ j lj nN P8 Uy=>?_⟩
  .rcases Az with q|q
   .exact (eQ b q).1
   .have:=h.aR.size;omega
  .rcases Az with q|q
   .exact (eQ b q).2.1
   .intro hs;have:=h.dH b hs;omega
  .by_cases xo:j=id
   .simp[xo] at hjp
   .rw[b3R xo,ef] at hjp;simp only[b4D] at hjp;obtain⟨o',cN,_⟩:=hjp;rcases Az with q|q
    .exact xo (h.apart j id o' _ b cN aX Uy q)
    .have:=(h.place j o' b cN Uy).2.2;omega
  .by_cases xo:j=id
   .simp[xo] at P8
   .rw[b3R xo,ef] at P8;obtain⟨_,_,q3,q4⟩:=h.aP.pl j lj nN b (jE P8) Uy;rcases Az with q|q
    .exact q4 id _ aX q
    .omega)
 refine⟨v',w',⟨G.S,λ i=>if i=id then v' else G.η i,G.φ⟩,k1,?_⟩;unfold Inv;have cF:ah.af { aB:=(s.cp id).aB.set d (.row id),aN:=(id, .row e τ (xs++ys))::bS id (s.cp id).aN }=λ i=>if i=id then some (.row e τ (xs++ys)) else (if i=id then none else (s.cp id).af i):=by
  funext i;show af (_::bS id (s.cp id).aN) i=_;rw[dB,eC];rfl
 have Lf:ah.sl { aB:=(s.cp id).aB.set d (.row id),aN:=(id, .row e τ (xs++ys))::bS id (s.cp id).aN }=j9 s.aB.length (s.cp id).sl (some d) (.row id):=by
  have:=sy (s.cp id).aB d (.row id) ((id, .row e τ (xs++ys))::bS id (s.cp id).aN);rw[show (s.cp id).aB.length=s.aB.length from by simp[ah.cp]] at this;exact this
 rw[Lf,cF,show ({ aB:=(s.cp id).aB.set d (.row id),aN:=(id, .row e τ (xs++ys))::bS id (s.cp id).aN }:ah).aB.length=s.aB.length from by simp[ah.cp]];refine bw.put h5 ⟨by simp,by simp[isRow],?_⟩;rcases k2.2 with ⟨rfl,_⟩|⟨g,cap,cur,rfl,_⟩
 .exact⟨_,_,_,rfl⟩
 .exact⟨_,_,_,rfl⟩
end
section
variable {c:Ctx} {G:Gh} {sl:Nat->AV} {n:Nat} {lk:Nat->Option aD} {a:Act} {w w':World}
theorem bw.XZ(h:bw c G sl n lk a w)(id:Nat)(τ:Ty)(xs:List τ.den)(η0:Value)(fp:List Nat)(aX:lk id=none)(hs:∀ i,(sl i).refs id=false)(ho:∀ i o,lk i=some o->o.refs id=false)
  (b2a:c.R id=none) (hT:il w η0 τ xs fp) (cU:fp.Nodup) (hpl:∀ b∈fp,(c.w0.heap.size<=b\/c.X b)/\¬ G.S b/\b<w.heap.size/\(∀ i o,lk i=some o->ew (G.η i)≠some b)/\∀ j τ xs,lk j=some (.aw τ xs)->b∉G.φ j) :
  bw c ⟨G.S,λ i=>if i=id then η0 else G.η i,λ i=>if i=id then fp else G.φ i⟩ sl n (λ i=>if i=id then some (.aw τ xs) else lk i) a w:=by
 have e9:∀ j,j≠id->eF (lk j) ((λ i=>if i=id then some (aD.aw τ xs) else lk i) j)/\(if j=id then η0 else G.η j)=G.η j:=λ j hj=>by simp only[b3R hj];exact⟨eF.refl _,U⟩
 have P2:ew η0=none:=by
  obtain⟨v,l,_,_,h1,_⟩:=hT;rw[h1];rfl
 have jw:∀ i b,ew (if i=id then η0 else G.η i)=some b->i≠id/\ew (G.η i)=some b:=λ i b hb=>by
  by_cases hi:i=id
  .rw[b4n hi,P2] at hb;cases hb
  .rw[b3R hi] at hb;exact⟨hi,hb⟩
 have hold:∀ j bj cV,(if j=id then some (aD.aw τ xs) else lk j)=some (.aw bj cV)->j≠id->lk j=some (.aw bj cV):=λ j bj cV k hj=>by rwa [b3R hj] at k
 exact {
  defers:=h.defers,size:=h.size,aR:=h.aR,jP:=h.jP,eu:=h.eu,sX:=h.sX,dH:=h.dH
  aB:=λ i=>(h.aB i).mono (λ j hj=>e9 j (λ e=>by subst e;rw[hs i] at hj;cases hj)) (λ _ h=>h) (λ _ _=>rfl)
  aN:=λ i o' cE=>by
   by_cases hi:i=id
   .subst hi;simp only[b5y,b3C] at cE;subst cE;trivial
   .simp only[b3R hi] at cE;exact (h.aN i o' cE).mono (by simp only[b3R hi]) (λ _ _=>rfl) (λ j hj=>e9 j (λ e=>by subst e;rw[ho i o' cE] at hj;cases hj)) (λ _ h=>h) (λ _ _=>rfl)
  place:=λ i o' b cE hb=>by
   obtain⟨hi,hb⟩:=jw i b hb;simp only[b3R hi] at cE;exact h.place i o' b cE hb
  apart:=λ i j o1 o2 b cE NG hb cz=>by
   obtain⟨hi,hb⟩:=jw i b hb;obtain⟨hj,cz⟩:=jw j b cz;simp only[b3R hi] at cE;simp only[b3R hj] at NG;exact h.apart i j o1 o2 b cE NG hb cz
  aP:={
   tr:=λ j bj cV k=>by
    by_cases hj:j=id
    .subst hj;simp only[b5y,b3C,aD.aw.injEq] at k ⊢;obtain⟨rfl,k⟩:=k;have k:=b7k k;subst k;exact hT
    .simp only[b3R hj];exact h.aP.tr j bj cV (hold j bj cV k hj)
   nd:=λ j bj cV k=>by
    by_cases hj:j=id
    .simp only[b4n hj];exact cU
    .simp only[b3R hj];exact h.aP.nd j bj cV (hold j bj cV k hj)
   pl:=λ j bj cV b k hb=>by
    have fin:(∀ i o,lk i=some o->ew (G.η i)≠some b)->∀ i o,(if i=id then some (aD.aw τ xs) else lk i)=some o->ew (if i=id then η0 else G.η i)≠some b:=λ hh i o cE e=>by
     obtain⟨hi,e⟩:=jw i b e;rw[b3R hi] at cE;exact hh i o cE e
    by_cases hj:j=id
    .simp only[b4n hj] at hb;obtain⟨q1,q2,q3,q4,q5⟩:=hpl b hb;exact⟨q1,q2,q3,fin q4⟩
    .simp only[b3R hj] at hb;obtain⟨q1,q2,q3,q4⟩:=h.aP.pl j bj cV b (hold j bj cV k hj) hb;exact⟨q1,q2,q3,fin q4⟩
   ap:=λ j j' Zl lj Zk nN b k k' hb cz=>by
    by_cases hj:j=id
    .by_cases I3:j'=id
     .rw[hj,I3]
     .simp only[b4n hj] at hb;simp only[b3R I3] at cz;exact absurd cz ((hpl b hb).2.2.2.2 j' lj nN (hold j' lj nN k' I3))
    .by_cases I3:j'=id
     .simp only[b3R hj] at hb;simp only[b4n I3] at cz;exact absurd hb ((hpl b cz).2.2.2.2 j Zl Zk (hold j Zl Zk k hj))
     .simp only[b3R hj] at hb;simp only[b3R I3] at cz;exact h.aP.ap j j' Zl lj Zk nN b (hold j Zl Zk k hj) (hold j' lj nN k' I3) hb cz }
  root:=λ j v hr ht=>by
   have eZ:j≠id:=λ e=>by subst e;rw[b2a] at hr;cases hr
   simp only[b3R eZ] at ht ⊢;exact h.root j v hr ht
  iP:=h.iP
  dw:=λ j v hr ht=>by
   by_cases hj:j=id
   .simp only[b4n hj] at ht;cases ht
   .simp only[b3R hj] at ht ⊢;exact h.dw j v hr ht
  fh:=h.fh }
def yR(c:Ctx)(G:Gh)(lk:Nat->Option aD)(w:World)(b:Nat):Prop :=
 (c.w0.heap.size<=b\/c.X b)/\¬ G.S b/\b<w.heap.size/\(∀ i o,lk i=some o->ew (G.η i)≠some b)/\∀ j τ xs,lk j=some (.aw τ xs)->b∉G.φ j
structure LO(c:Ctx)(G:Gh)(lk lk':Nat->Option aD)(w w':World)(sD:Nat->Value)(qg:Nat->List Nat)(I:Nat->Prop):Prop where
 same:∀ id,¬ I id->lk' id=lk id/\sD id=G.η id/\qg id=G.φ id
 aw:∀ id,I id->∃ τ xs cV v l l',lk id=some (.aw τ xs)/\lk' id=some (.aw τ cV)/\G.η id = .tuple (v::l).toArray/\sD id = .tuple (v::l').toArray/\il w' (sD id) τ cV (qg id)/\(qg id).Nodup
 a9O:∀ id b,I id->b∈qg id->(∃ dx,I dx/\b∈G.φ dx)\/yR c G lk w' b
 apart:∀ id dx b,I id->I dx->b∈qg id->b∈qg dx->id=dx
 heap:∀ b,b<w.heap.size->(∀ id,I id->b∉G.φ id)->w'.heap[b]?=w.heap[b]?
 os:w'.os=w.os
 tape:w'.tape=w.tape
 output:w'.output=w.output
 size:w.heap.size<=w'.heap.size
theorem yR.grow{lk:Nat->Option aD}{b:Nat}(h:yR c G lk w b)(hs:w.heap.size<=w'.heap.size):yR c G lk w' b :=
 ⟨h.1,h.2.1,b3X h.2.2.1 hs,h.2.2.2⟩
theorem LO.b1k{sD:Nat->Value}{qg:Nat->List Nat}{I:Nat->Prop}{lk':Nat->Option aD}(t:LO c G lk lk' w w' sD qg I)(id:Nat):eF (lk id) (lk' id):=by
 by_cases hi:I id
 .obtain⟨τ,xs,cV,_,_,_,h1,h2,_⟩:=t.aw id hi;rw[h1,h2];exact⟨λ h=>(by cases h),(λ e τ xs h=>by cases h),(λ _=>rfl),λ hh=>by cases hh⟩
 .rw[(t.same id hi).1];exact eF.refl _
theorem C1.fi{sD:Nat->Value}{qg:Nat->List Nat}{I:Nat->Prop}{lk':Nat->Option aD}(t:LO c G lk lk' w w' sD qg I)(cv:∀ b,St c G.S b->w'.heap[b]?=w.heap[b]?){u:AV}{x:Value}(hu:u.Ri=false)(h:C1 c G lk w u x):C1 c ⟨G.S,sD,qg⟩ lk' w' u x:=by
 have key:(∀ id,u.refs id=true->¬ I id)->C1 c ⟨G.S,sD,qg⟩ lk' w' u x:=λ hk=>h.mono (λ id aX=>⟨t.b1k id,(t.same id (hk id aX)).2.1⟩) (λ _ h=>h) cv;have noT:∀ id,cx (lk id)=false->¬ I id:=λ id hn hi=>by
  obtain⟨τ,xs,_,_,_,_,h1,_⟩:=t.aw id hi;rw[h1] at hn;cases hn
 cases u with
 | aw id =>
  obtain⟨h1,l,h2,h3⟩:=h;by_cases hi:I id
  .obtain⟨τ,xs,cV,v,l0,l',k1,k2,k3,k4,_⟩:=t.aw id hi;rw[k3] at h2;simp only[b5k,b7f,b3O] at h2;obtain⟨rfl,_⟩:=h2;exact⟨by rw[k2];rfl,l',k4,h3⟩
  .exact key λ j hj=>by
    have:=b3G (show Nat.beq id j=true from hj);subst this;exact hi
 | eU id i off sz =>
  obtain⟨h1,b,n,cap,l,h2,h3⟩:=h;by_cases hi:I id
  .obtain⟨τ,xs,cV,v,l0,l',k1,k2,k3,k4,_⟩:=t.aw id hi;rw[k3] at h2;simp only[b5k,b7f,b3O] at h2;obtain⟨rfl,_⟩:=h2;exact⟨by rw[k2];rfl,b,n,cap,l',k4,h3⟩
  .exact key λ j hj=>by
    have:=b3G (show Nat.beq id j=true from hj);subst this;exact hi
 | sub id i off sz=>cases hu
 | ptr id off =>
  refine key λ j hj=>?_;have:=b3G (show Nat.beq id j=true from hj);subst this;obtain⟨_,_,_,h3⟩:=h;exact noT id (by match hl:lk id,h3 with|some (.box _),_=>rfl)
 | row id =>
  refine key λ j hj=>?_;have:=b3G (show Nat.beq id j=true from hj);subst this;exact noT id (uY h.2.1)
 | eB id i off =>
  refine key λ j hj=>?_;have:=b3G (show Nat.beq id j=true from hj);subst this;obtain⟨_,_,_,_,_,_,_,h3,_⟩:=h;exact noT id (by rw[h3];rfl)
 | mp id =>
  refine key λ j hj=>?_;have:=b3G (show Nat.beq id j=true from hj);subst this;exact noT id (Mf h.2.1)
 | agg cs=>exact h.elim
 | iR cs=>exact h.elim
 | di f cs=>exact h.elim
 | _=>exact key λ j hj=>by cases hj
theorem qc:∀ {cs:List AV} {v:AV},AV.qb cs=false->v∈cs->v.Ri=false
 | u::r,v,h,hm=>by
  simp only[AV.qb] at h;split at h
  .cases h
  .rename_i hu;rcases b3Z.1 hm with rfl|hm
   .exact hu
   .exact qc h hm
theorem CR.fi{sD:Nat->Value}{qg:Nat->List Nat}{I:Nat->Prop}{lk':Nat->Option aD}(t:LO c G lk lk' w w' sD qg I)(cv:∀ b,St c G.S b->w'.heap[b]?=w.heap[b]?){u:AV}{x:Value}(hu:u.Ri=false)(h:CR c G lk w u x):CR c ⟨G.S,sD,qg⟩ lk' w' u x:=by
 cases u with
 | aI v=>exact eK.mono (G:=G) (G':=⟨G.S,sD,qg⟩) h (λ _ h=>h) (λ b hb=>cv b (.inl hb))
 | agg cs =>
  obtain⟨l,h1,h2⟩:=h;exact⟨l,h1,h2.imp λ u y hm hy=>hy.fi t cv (qc (show AV.qb cs=false from hu) hm)⟩
 | _=>exact C1.a3b (C1.fi t cv hu h)
theorem VR.fi{sD:Nat->Value}{qg:Nat->List Nat}{I:Nat->Prop}{lk':Nat->Option aD}(t:LO c G lk lk' w w' sD qg I)(cv:∀ b,St c G.S b->w'.heap[b]?=w.heap[b]?){u:AV}{x:Value}(hu:u.Ri=false)(h:VR c G lk w u x):VR c ⟨G.S,sD,qg⟩ lk' w' u x:=by
 cases u with
 | aI v=>exact eK.mono (G:=G) (G':=⟨G.S,sD,qg⟩) h (λ _ h=>h) (λ b hb=>cv b (.inl hb))
 | agg cs =>
  obtain⟨l,h1,h2⟩:=h;exact⟨l,h1,h2.imp λ u y hm hy=>hy.fi t cv (qc (show AV.qb cs=false from hu) hm)⟩
 | iR vs =>
  obtain⟨l,h1,h2⟩:=h;refine⟨l,h1,h2.imp λ u y hm hy=>?_⟩;have hu':=qc (show AV.qb vs=false from hu) hm;cases u with
  | any=>trivial
  | aI v=>exact eK.mono (G:=G) (G':=⟨G.S,sD,qg⟩) hy (λ _ h=>h) (λ b hb=>cv b (.inl hb))
  | aw i=>exact C1.fi (u := .aw i) t cv rfl hy
  | dc v=>exact C1.fi (u := .dc v) t cv rfl hy
  | agg cs =>
   obtain⟨l,h1,h2⟩:=hy;exact⟨l,h1,h2.imp λ u y hm hy=>hy.fi t cv (qc (show AV.qb cs=false from hu') hm)⟩
  | _=>exact hy.elim
 | any=>trivial
 | eh=>exact h
 | nil=>exact (C1.fi (u := .nil) t cv hu h).gu
 | dc u=>exact (C1.fi (u := .dc u) t cv hu h).gu
 | ptr i o=>exact (C1.fi (u := .ptr i o) t cv hu h).gu
 | row i=>exact (C1.fi (u := .row i) t cv hu h).gu
 | eB i k o=>exact (C1.fi (u := .eB i k o) t cv hu h).gu
 | fn f=>exact (C1.fi (u := .fn f) t cv hu h).gu
 | aw i=>exact (C1.fi (u := .aw i) t cv hu h).gu
 | sub i k o z=>cases hu
 | mp i=>exact (C1.fi (u := .mp i) t cv hu h).gu
 | eU i k o z=>exact (C1.fi (u := .eU i k o z) t cv hu h).gu
 | iC v=>exact (C1.fi (u := .iC v) t cv hu h).gu
 | di f cs =>
  obtain⟨l,h1,h2⟩:=h;exact⟨l,h1,h2.imp λ u y hm hy=>hy.fi t cv (qc (show AV.qb cs=false from hu) hm)⟩
theorem bw.fi(h:bw c G sl n lk a w){sD:Nat->Value}{qg:Nat->List Nat}{I:Nat->Prop}{lk':Nat->Option aD}(t:LO c G lk lk' w w' sD qg I)(hs:∀ i,(sl i).Ri=false)(RZ:∀ id cs,lk id=some (.box cs)->AV.qb cs=false) :
  bw c ⟨G.S,sD,qg⟩ sl n lk' a w':=by
 have pl:∀ id b,I id->b∈G.φ id->(c.w0.heap.size<=b\/c.X b)/\¬ G.S b/\b<w.heap.size/\∀ i o,lk i=some o->ew (G.η i)≠some b:=λ id b hi hb=>by
  obtain⟨τ,xs,_,_,_,_,h1,_⟩:=t.aw id hi;exact h.aP.pl id τ xs b h1 hb
 have a4Z:∀ b,b<w.heap.size->((c.w0.heap.size<=b\/c.X b)->False)->w'.heap[b]?=w.heap[b]?:=λ b hb hn=>t.heap b hb λ id hi iD=>hn (pl id b hi iD).1;have cv:∀ b,St c G.S b->w'.heap[b]?=w.heap[b]?:=λ b hb=>by
  rcases hb with hb|hb
  .exact t.heap b (h.dH b hb) λ id hi iD=>(pl id b hi iD).2.1 hb
  .exact a4Z b (b3X hb.1 h.aR.size) λ hn=>hn.elim (λ q=>by omega) hb.2.1
 have jw:∀ id o b,lk id=some o->ew (G.η id)=some b->w'.heap[b]?=w.heap[b]?:=λ id o b ho hb =>
  t.heap b (h.place id o b ho hb).2.2 λ j hj iD=>(pl j b hj iD).2.2.2 id o ho hb
 have eH:∀ id b,ew (sD id)=some b->¬ I id/\ew (G.η id)=some b:=λ id b hb=>by
  by_cases hi:I id
  .obtain⟨_,_,_,_,_,_,_,_,_,h4,_⟩:=t.aw id hi;rw[h4] at hb;cases hb
  .rw[(t.same id hi).2.1] at hb;exact⟨hi,hb⟩
 have pE:∀ id τ xs b,lk' id=some (.aw τ xs)->b∈qg id->(∃ dx bj cV,lk dx=some (.aw bj cV)/\b∈G.φ dx/\(¬ I id->dx=id)/\(I id->I dx))\/(I id/\yR c G lk w' b):=λ id τ xs b aX hb=>by
  by_cases hi:I id
  .rcases t.a9O id b hi hb with ⟨dx,oe,cz⟩|hfr
   .obtain⟨bj,cV,_,_,_,_,h1,_⟩:=t.aw dx oe;exact .inl ⟨dx,bj,cV,h1,cz,λ hn=>absurd hi hn,λ _=>oe⟩
   .exact .inr ⟨hi,hfr⟩
  .obtain⟨h1,h2,h3⟩:=t.same id hi;rw[h1] at aX;rw[h3] at hb;exact .inl ⟨id,τ,xs,aX,hb,λ _=>rfl,λ oe=>absurd oe hi⟩
 exact {
  defers:=h.defers,size:=h.size
  aR:=h.aR.trans (Y:=λ b=>c.w0.heap.size<=b\/c.X b) ⟨t.os,t.tape,t.output,t.size,λ b hb hn=>a4Z b hb hn⟩ λ i hi hy=>hy.elim (λ q=>by omega) id
  jP:=h.jP,eu:=h.eu,sX:=h.sX
  dH:=λ b hb=>b3X (h.dH b hb) t.size
  aB:=λ i=>(h.aB i).fi t cv (hs i)
  aN:=λ id o aX=>by
   by_cases hi:I id
   .obtain⟨τ,xs,cV,_,_,_,_,h2,_⟩:=t.aw id hi;rw[h2] at aX;simp only[b3C] at aX;subst aX;trivial
   .obtain⟨h1,h2,h3⟩:=t.same id hi;rw[h1] at aX;have ho:=h.aN id o aX;cases o with
    | box cs =>
     obtain⟨b,l,ty,k1,k2,k3⟩:=ho;refine⟨b,l,ty,h2.trans k1,?_,k3.imp λ u y hm hy=>hy.fi t cv (qc (RZ id cs aX) hm)⟩;rw[jw id _ b aX (by rw[k1];rfl)];exact k2
    | row e τ xs =>
     obtain⟨l,k1,k2,k3⟩:=ho;refine⟨l,?_,dT.aR (λ _ h=>h) (λ b hb=>cv b (.inl hb)) _ k2,k3⟩;rw[show (⟨G.S,sD,qg⟩:Gh).η id=G.η id from h2];exact Mh k1 λ b hb=>jw id _ b aX hb
    | aw τ xs=>trivial
    | map m =>
     obtain⟨b,es,clock,k1,k2,k3⟩:=ho;exact⟨b,es,clock,h2.trans k1,(jw id _ b aX (by rw[k1];rfl)).trans k2,k3⟩
  place:=λ id o b aX hb=>by
   obtain⟨hi,hb⟩:=eH id b hb;rw[(t.same id hi).1] at aX;obtain⟨q1,q2,q3⟩:=h.place id o b aX hb;exact⟨q1,q2,b3X q3 t.size⟩
  apart:=λ id dx o o' b aX I2 hb cz=>by
   obtain⟨hi,hb⟩:=eH id b hb;obtain⟨oe,cz⟩:=eH dx b cz;rw[(t.same id hi).1] at aX;rw[(t.same dx oe).1] at I2;exact h.apart id dx o o' b aX I2 hb cz
  aP:={
   tr:=λ id τ xs aX=>by
    by_cases hi:I id
    .obtain⟨τ0,xs0,cV,v,l,l',h1,h2,h3,h4,h5,h6⟩:=t.aw id hi;rw[h2] at aX;simp only[b3C,aD.aw.injEq] at aX;obtain⟨rfl,aX⟩:=aX;have aX:=b7k aX;subst aX;exact h5
    .obtain⟨h1,h2,h3⟩:=t.same id hi;rw[h1] at aX;rw[show (⟨G.S,sD,qg⟩:Gh).η id=G.η id from h2,show (⟨G.S,sD,qg⟩:Gh).φ id=G.φ id from h3];exact (h.aP.tr id τ xs aX).aR λ b hb=>t.heap b (h.aP.pl id τ xs b aX hb).2.2.1 λ j hj iD=>by
      obtain⟨bj,cV,_,_,_,_,k1,_⟩:=t.aw j hj;have:=h.aP.ap id j τ bj xs cV b aX k1 hb iD;subst this;exact hi hj
   nd:=λ id τ xs aX=>by
    by_cases hi:I id
    .obtain⟨_,_,_,_,_,_,_,_,_,_,_,h6⟩:=t.aw id hi;exact h6
    .obtain⟨h1,h2,h3⟩:=t.same id hi;rw[h1] at aX;rw[show (⟨G.S,sD,qg⟩:Gh).φ id=G.φ id from h3];exact h.aP.nd id τ xs aX
   pl:=λ id τ xs b aX hb=>by
    have hq:(c.w0.heap.size<=b\/c.X b)/\¬ G.S b/\b<w'.heap.size/\∀ i o,lk i=some o->ew (G.η i)≠some b:=by
     rcases pE id τ xs b aX hb with ⟨dx,bj,cV,k1,k2,_⟩|⟨_,f1,f2,f3,f4,_⟩
     .obtain⟨f1,f2,f3,f4⟩:=h.aP.pl dx bj cV b k1 k2;exact⟨f1,f2,b3X f3 t.size,f4⟩
     .exact⟨f1,f2,f3,f4⟩
    obtain⟨q1,q2,q3,q4⟩:=hq;refine⟨q1,q2,q3,λ i o cE rh=>?_⟩;obtain⟨hi,rh⟩:=eH i b rh;rw[(t.same i hi).1] at cE;exact q4 i o cE rh
   ap:=λ id dx τ bj xs cV b aX I2 hb cz=>by
    by_cases hi:I id
    .by_cases oe:I dx
     .exact t.apart id dx b hi oe hb cz
     .rcases pE dx bj cV b I2 cz with ⟨j',lj,nN,m1,m2,m3,_⟩|⟨q,_⟩
      .rcases pE id τ xs b aX hb with ⟨j,Zl,Zk,k1,k2,_,k4⟩|⟨_,hfr⟩
       .have:=h.aP.ap j j' _ _ _ _ b k1 m1 k2 m2;have e:=m3 oe;subst e this;exact absurd (k4 hi) oe
       .exact absurd m2 (hfr.2.2.2.2 j' lj nN m1)
      .exact absurd q oe
    .by_cases oe:I dx
     .rcases pE id τ xs b aX hb with ⟨j,Zl,Zk,k1,k2,k3,_⟩|⟨q,_⟩
      .rcases pE dx bj cV b I2 cz with ⟨j',lj,nN,m1,m2,_,m4⟩|⟨_,hfr⟩
       .have:=h.aP.ap j j' _ _ _ _ b k1 m1 k2 m2;have e:=k3 hi;subst e this;exact absurd (m4 oe) hi
       .exact absurd k2 (hfr.2.2.2.2 j Zl Zk k1)
      .exact absurd q hi
     .rcases pE id τ xs b aX hb with ⟨j,Zl,Zk,k1,k2,k3,_⟩|⟨q,_⟩
      .rcases pE dx bj cV b I2 cz with ⟨j',lj,nN,m1,m2,m3,_⟩|⟨q,_⟩
       .have:=h.aP.ap j j' _ _ _ _ b k1 m1 k2 m2;exact (k3 hi).symm.trans (this.trans (m3 oe))
       .exact absurd q oe
      .exact absurd q hi }
  root:=λ id v hr ht=>by
   by_cases hi:I id
   .obtain⟨τ,xs,cV,v0,l,l',k1,k2,k3,k4,_⟩:=t.aw id hi;obtain⟨l2,h2⟩:=h.root id v hr (by rw[k1];rfl);rw[k3] at h2;simp only[b5k,b7f,b3O] at h2;obtain⟨rfl,_⟩:=h2;exact⟨l',k4⟩
   .obtain⟨h1,h2,_⟩:=t.same id hi;rw[h1] at ht;rw[show (⟨G.S,sD,qg⟩:Gh).η id=G.η id from h2];exact h.root id v hr ht
  iP:=h.iP
  dw:=λ id v hr ht=>by
   by_cases hi:I id
   .obtain⟨τ,xs,cV,v0,l,l',k1,k2,k3,k4,_⟩:=t.aw id hi;rw[k2] at ht;cases ht
   .obtain⟨h1,h2,_⟩:=t.same id hi;rw[h1] at ht;rw[show (⟨G.S,sD,qg⟩:Gh).η id=G.η id from h2];exact h.dw id v hr ht
  fh:=h.fh }
theorem bw.X3(h:bw c G sl n lk a w){d:Nat}(hd:lk d=none):(∀ i,(sl i).refs d=false)/\∀ i o,lk i=some o->o.refs d=false:=by
 have c1:∀ (v:AV) (x:Value),C1 c G lk w v x->v.refs d=true->False:=λ v x hv hr=>by
  have ie:∀ i,Nat.beq i d=true->fZ (lk i)=false/\isRow (lk i)=false/\cx (lk i)=false/\∀ e τ xs,lk i≠some (.row e τ xs):=λ i hi=>by
   have:=b3G hi;subst this;rw[hd];exact⟨rfl,rfl,rfl,λ _ _ _=>by simp⟩
  cases v with
  | ptr i o=>obtain⟨_,_,_,h3⟩:=hv;rw[(ie i hr).1] at h3;cases h3
  | row i=>obtain⟨_,h3,_⟩:=hv;rw[(ie i hr).2.1] at h3;cases h3
  | eB i k o=>obtain⟨_,_,_,_,_,_,_,h3,_⟩:=hv;exact (ie i hr).2.2.2 _ _ _ h3
  | aw i=>have h3:=hv.1;rw[(ie i hr).2.2.1] at h3;cases h3
  | sub i k o z=>have h3:=hv.1;rw[(ie i hr).2.2.1] at h3;cases h3
  | eU i k o z=>have h3:=hv.1;rw[(ie i hr).2.2.1] at h3;cases h3
  | mp i =>
   have h3:=hv.2.1;have:=b3G (show Nat.beq i d=true from hr);subst this;rw[hd] at h3;cases h3
  | agg cs=>exact hv
  | iR cs=>exact hv
  | di f cs=>exact hv
  | _=>cases hr
 have cL:∀ (cs:List AV) (l:List Value),aV (C1 c G lk w) cs l->AV.gf d cs=true->False:=by
  intro cs;induction cs with
  | nil=>intro l _ hr;cases hr
  | cons v r ih =>
   intro l hl hr;match l,hl with
   | x::l,hl =>
    simp only[AV.gf] at hr;split at hr
    .rename_i hv;exact c1 v x hl.1 hv
    .exact ih l hl.2 hr
 refine⟨λ i=>?_,λ i o ho=>?_⟩
 .cases hr:(
        sl i).refs d with
  | false=>rfl
  | true =>
   have hv:=h.aB i;revert hv hr;generalize a.tmps.getD i undef=x;cases sl i with
   | aI u=>intro hr;cases hr
   | agg cs =>
    intro hr hv;obtain⟨l,_,hl⟩:=hv;exact (cL cs l hl hr).elim
   | iR vs =>
    intro hr hv;obtain⟨l,_,hl⟩:=hv;have:∀ (
         vs:List AV) (l:List Value),aV (TR c G lk w) vs l->AV.gf d vs=true->False:=by
     intro vs;induction vs with
     | nil=>intro l _ hr;cases hr
     | cons v r ih =>
      intro l hl hr;match l,hl with
      | x::l,hl =>
       simp only[AV.gf] at hr;split at hr
       .rename_i hv;have h1:=hl.1;cases v with
        | aw i=>exact c1 (.aw i) x h1 hv
        | agg cs =>
         obtain⟨l',_,oK⟩:=h1;exact cL cs l' oK hv
        | aI u=>cases hv
        | dc u=>cases hv
        | any=>cases hv
        | _=>exact h1
       .exact ih l hl.2 hr
    exact (this vs l hl hr).elim
   | di f vs =>
    intro hr hv;obtain⟨l,_,hl⟩:=hv;have:∀ (vs:List AV) (l:List Value),aV (CR c G lk w) vs l->AV.gf d vs=true->False:=by
     intro vs;induction vs with
     | nil=>intro l _ hr;cases hr
     | cons v r ih =>
      intro l hl hr;match l,hl with
      | x::l,hl =>
       simp only[AV.gf] at hr;split at hr
       .rename_i hv;rcases hl.1.inv with ⟨u,rfl,_⟩|⟨cs,l',rfl,_,oK⟩|h1
        .cases hv
        .exact cL cs l' oK hv
        .exact c1 _ x h1 hv
       .exact ih l hl.2 hr
    exact (this vs l hl hr).elim
   | any=>intro hr;cases hr
   | eh=>intro hr;cases hr
   | nil=>intro hr;cases hr
   | dc u=>intro hr;cases hr
   | fn f=>intro hr;cases hr
   | iC v=>intro hr;cases hr
   | ptr i o=>intro hr hv;exact (c1 (.ptr i o) x hv hr).elim
   | row i=>intro hr hv;exact (c1 (.row i) x hv hr).elim
   | eB i k o=>intro hr hv;exact (c1 (.eB i k o) x hv hr).elim
   | aw i=>intro hr hv;exact (c1 (.aw i) x hv hr).elim
   | sub i k o z=>intro hr hv;exact (c1 (.sub i k o z) x hv hr).elim
   | eU i k o z=>intro hr hv;exact (c1 (.eU i k o z) x hv hr).elim
   | mp i=>intro hr hv;exact (c1 (.mp i) x hv hr).elim
 .cases hr:o.refs d with
  | false=>rfl
  | true =>
   cases o with
   | row e τ xs=>cases hr
   | aw τ xs=>cases hr
   | map m=>cases hr
   | box cs =>
    obtain⟨b,l,t,_,_,k3⟩:=h.aN i _ ho;exact (cL cs l k3 hr).elim
structure Ext(G:Gh)(lk:Nat->Option aD)(G':Gh)(lk':Nat->Option aD):Prop where
 S:G'.S=G.S
 old:∀ i o,lk i=some o->lk' i=some o/\G'.η i=G.η i/\G'.φ i=G.φ i
theorem Ext.refl(G:Gh)(lk:Nat->Option aD):Ext G lk G lk:=⟨rfl,λ _ _ h=>⟨h,rfl,rfl⟩⟩
theorem Ext.trans{G1 G2 G3:Gh}{l1 l2 l3:Nat->Option aD}(h:Ext G1 l1 G2 l2)(k:Ext G2 l2 G3 l3):Ext G1 l1 G3 l3 :=
 ⟨k.S.trans h.S,λ i o ho=>by
  obtain⟨a1,a2,a3⟩:=h.old i o ho;obtain⟨b1,b2,b3⟩:=k.old i o a1;exact⟨b1,b2.trans a2,b3.trans a3⟩⟩
theorem C1.ext{G':Gh}{lk':Nat->Option aD}(e:Ext G lk G' lk'){v:AV}{x:Value}(h:C1 c G lk w v x):C1 c G' lk' w v x:=by
 refine h.mono (λ id aX=>?_) (λ b hb=>by rw[e.S];exact hb) (λ _ _=>rfl);have eZ:lk id≠none:=λ hn=>by
  cases v with
  | ptr i o=>have:=b3G (show Nat.beq i id=true from aX);subst this;obtain⟨_,_,_,h3⟩:=h;rw[hn] at h3;cases h3
  | row i=>have:=b3G (show Nat.beq i id=true from aX);subst this;obtain⟨_,h3,_⟩:=h;rw[hn] at h3;cases h3
  | eB i k o=>have:=b3G (show Nat.beq i id=true from aX);subst this;obtain⟨_,_,_,_,_,_,_,h3,_⟩:=h;rw[hn] at h3;cases h3
  | aw i=>have:=b3G (show Nat.beq i id=true from aX);subst this;have h3:=h.1;rw[hn] at h3;cases h3
  | sub i k o z=>have:=b3G (show Nat.beq i id=true from aX);subst this;have h3:=h.1;rw[hn] at h3;cases h3
  | eU i k o z=>have:=b3G (show Nat.beq i id=true from aX);subst this;have h3:=h.1;rw[hn] at h3;cases h3
  | mp i=>have:=b3G (show Nat.beq i id=true from aX);subst this;have h3:=h.2.1;rw[hn] at h3;cases h3
  | agg cs=>exact h
  | iR cs=>exact h
  | di f cs=>exact h
  | _=>cases aX
 match hl:lk id,eZ with
 | some o,_ =>
  obtain⟨h1,h2,_⟩:=e.old id o hl;rw[h1];exact⟨eF.refl _,h2⟩
def Fr(c:Ctx)(G:Gh)(lk:Nat->Option aD)(w:World)(fp:List Nat):Prop :=
 ∀ b∈fp,(c.w0.heap.size<=b\/c.X b)/\¬ G.S b/\b<w.heap.size/\(∀ i o,lk i=some o->ew (G.η i)≠some b)/\∀ j τ xs,lk j=some (.aw τ xs)->b∉G.φ j
def gC(news:List (Nat×aD))(lk:Nat->Option aD)(i:Nat):Option aD:=match af news i with
 | some o=>some o
 | none=>lk i
theorem a7U(lk:Nat->Option aD):gC [] lk=lk:=rfl
theorem a5W(id:Nat)(o:aD)(r:List (Nat×aD))(lk:Nat->Option aD)(hr:af r id=none):gC r (λ i=>if i=id then some o else lk i)=gC ((id,o)::r) lk:=by
 funext i;unfold gC;rw[dB];by_cases hi:i=id
 .subst hi;rw[hr];simp
 .simp[hi]
theorem T5:∀ (r r':List (Nat×aD)) (lk:Nat->Option aD),gC (r++r') lk=gC r (gC r' lk)
 | [],r',lk=>rfl
 | (id,o)::r,r',lk=>by
  funext i;have:=congrFun (T5 r r' lk) i;unfold gC at this ⊢;rw[List.cons_append,dB,dB];by_cases hi:i=id
  .simp[hi]
  .simpa [hi] using this
theorem il.a1k{τ:Ty}{xs:List τ.den}{x:Value}{fp:List Nat}(h:Ow w (.slice τ.size (xs.map τ.aQ)) [x] fp):∃ l,il w (.tuple (x::l).toArray) τ xs fp/\∃ a n m,x = .slice a n m:=by
 obtain⟨a',cap,h1,h2,h3,h4,h5⟩:=h;simp only[b3O,b3T,b3Y] at h1 h2 h4;subst h1;rcases h5 with ⟨hx,ha,hf⟩|⟨b,f,l,t,ha,hf,k1,k2⟩
 .refine⟨[],⟨_,[],a',cap,rfl,rfl,h2,h3,h4, .inl ⟨?_,ha,hf⟩⟩,_,_,_,rfl⟩;simpa using hx
 .exact⟨l,⟨_,l,a',cap,rfl,rfl,h2,h3,h4, .inr ⟨b,f,t,ha,hf,k1,k2⟩⟩,_,_,_,rfl⟩
theorem Ow.a8a{η:Value}{τ:Ty}{xs:List τ.den}{fp:List Nat}(h:il w η τ xs fp){x:Value}{l:List Value}(hx:η = .tuple (x::l).toArray):Ow w (.slice τ.size (xs.map τ.aQ)) [x] fp:=by
 obtain⟨v,l',a',cap,h1,h2,h3,h4,h5,h6⟩:=h;rw[hx] at h1;simp only[Value.tuple.injEq,List.toArray_inj,List.cons.injEq] at h1;obtain⟨rfl,rfl⟩:=h1;refine⟨a',cap,by simp[h2],by simpa using h3,h4,by simpa using h5,?_⟩;rcases h6 with ⟨rfl,q1,q2⟩|⟨b,f,t,q1,q2,q3,q4⟩
 .exact .inl ⟨rfl,q1,q2⟩
 .exact .inr ⟨b,f,l,t,q1,q2,q3,q4⟩
theorem fE:∀ {l:List (Nat×aD)} {id:Nat} {o:aD},af l id=some o->(id,o)∈l
 | (k,p)::r,id,o,h=>by
  simp only[af] at h;split at h
  .rename_i hk;have hk:=b3G hk;simp only[b3C] at h;subst hk h;simp
  .exact b5m _ (fE h)
theorem bw.a6I(h:bw c G sl n lk a w){u:TV}(hu:u.τ.agg=false){x:Value}{fp:List Nat}{id:Nat}(hO:Ow w u.aQ [x] fp)(cU:fp.Nodup)(hF:Fr c G lk w fp)(aX:∀ p∈fJ id u,lk p.1=none)(hR:c.R id=none) :
  ∃ G',bw c G' sl n (gC (fJ id u) lk) a w/\Ext G lk G' (gC (fJ id u) lk)/\C1 c G' (gC (fJ id u) lk) w (iO id u) x /\
   ∀ fq,Fr c G lk w fq->(∀ b∈fq,b∉fp)->Fr c G' (gC (fJ id u) lk) w fq:=by
 have C3:(fJ id u=[]/\iO id u = .aI u)->∃ G',bw c G' sl n (gC (fJ id u) lk) a w/\Ext G lk G' (gC (fJ id u) lk)/\C1 c G' (gC (fJ id u) lk) w (iO id u) x /\
   ∀ fq,Fr c G lk w fq->(∀ b∈fq,b∉fp)->Fr c G' (gC (fJ id u) lk) w fq:=by
  rintro⟨e1,e2⟩;rw[e1,e2];exact⟨G,h,Ext.refl _ _,⟨hu,hO.rd (S:=λ b=>b∈fp) _ (λ _ h=>h) |> λ hr=>by
   obtain⟨τ,y⟩:=u;cases τ with
   | slice t=>simp[fJ] at e1
   | mv t=>simp[iO] at e2
   | ptr=>exact hr
   | st s=>cases hu
   | int k=>exact hr
   | bool=>exact hr
   | str=>exact hr⟩,λ fq hq _=>hq⟩
 obtain⟨τ,y⟩:=u;cases τ with
 | mv t=>exact⟨G,h,Ext.refl _ _,U,λ fq hq _=>hq⟩
 | slice t =>
  obtain⟨l,hT,Lf⟩:=il.a1k (τ:=t) (xs:=y) hO;have hn:lk id=none:=aX (id, .aw t y) (by simp[fJ]);obtain⟨UC,hr2⟩:=h.X3 hn;have hI:=h.XZ id t y _ fp hn UC hr2 hR hT cU hF;have cF:gC (fJ id ⟨.slice t,y⟩) lk=λ i=>if i=id then some (.aw t y) else lk i:=by
   rw[<-a7U (λ i=>if i=id then some (aD.aw t y) else lk i),a5W id _ [] lk rfl];rfl
  rw[cF];refine⟨_,hI,⟨rfl,λ i o ho=>?_⟩,⟨by simp[cx],l,by simp,Lf⟩,λ fq hq Co b hb=>?_⟩
  .have hi:i≠id:=λ e=>by subst e;rw[hn] at ho;cases ho
   simp[hi,ho]
  .obtain⟨q1,q2,q3,q4,q5⟩:=hq b hb;refine⟨q1,q2,q3,λ i o cE e=>?_,λ j τ xs hj=>?_⟩
   .by_cases hi:i=id
    .simp only[b4n hi] at e;cases e
    .simp only[b3R hi] at cE e;exact q4 i o cE e
   .by_cases hi:j=id
    .simp only[b4n hi];exact Co b hb
    .simp only[b3R hi] at hj ⊢;exact q5 j τ xs hj
 | st s=>cases hu
 | ptr=>exact C3 ⟨rfl,rfl⟩
 | int k=>exact C3 ⟨rfl,rfl⟩
 | bool=>exact C3 ⟨rfl,rfl⟩
 | str=>exact C3 ⟨rfl,rfl⟩
theorem T7{id:Nat}{u:TV}{p:Nat×aD}(h:p∈fJ id u):p.1=id:=by
 obtain⟨τ,y⟩:=u;cases τ<;>simp[fJ] at h;rw[h]
theorem XH{r:List (Nat×aD)}{i:Nat}(h:∀ p∈r,p.1≠i):af r i=none:=by
 induction r with
 | nil=>rfl
 | cons p r ih =>
  obtain⟨k,o⟩:=p;rw[dB,b3R (λ e=>h (k,o) (by simp) e.symm)];exact ih λ q hq=>h q (by simp[hq])
theorem bw.D1:∀ {us:List TV} {cs:List Value} {fp:List Nat} {id:Nat} {G:Gh} {lk:Nat->Option aD},bw c G sl n lk a w->(∀ u∈us,u.τ.agg=false)->cZ w (us.map TV.aQ) cs fp->fp.Nodup->Fr c G lk w fp ->
  (∀ p∈ca id us,lk p.1=none)->((ca id us).map (·.1)).Nodup->(∀ j,id<=j->c.R j=none) ->
  ∃ G' lk',(∀ i,lk' i=gC (ca id us) lk i)/\bw c G' sl n lk' a w/\Ext G lk G' lk'/\aV (C1 c G' lk' w) (cd id us) cs/\∀ fq,Fr c G lk w fq->(∀ b∈fq,b∉fp)->Fr c G' lk' w fq
 | [],cs,fp,id,G,lk,h,_,hO,_,_,_,_,_=>by
  obtain⟨rfl,rfl⟩:=hO;exact⟨G,lk,λ _=>rfl,h,Ext.refl _ _,U,λ fq hq _=>hq⟩
 | u::us,cs,fp,id,G,lk,h,hu,hO,cU,hF,aX,sM,hR=>by
  obtain⟨v,r,f1,f2,rfl,rfl,h1,h2⟩:=hO;rw[b4h] at cU;obtain⟨nd1,nd2,nd3⟩:=cU;simp only[ca,b5B] at sM;rw[b4h] at sM;obtain⟨d1,d2,d3⟩:=sM;obtain⟨G1,i1,e1,c1,fr1⟩:=h.a6I (id:=id) (hu u (by simp)) h1 nd1 (λ b hb=>hF b (by simp[hb])) (λ p hp=>aX p (by simp[ca,hp])) (hR id (b4r _));have eZ:∀ p∈ca (id+1) us,af (fJ id u) p.1=none:=λ p hp=>XH λ q hq e=>d3 q.1 (b3N.2 ⟨q,hq,rfl⟩) p.1 (b3N.2 ⟨p,hp,rfl⟩) e;obtain⟨G2,lk2,k1,k2,k3,k4,k5⟩:=bw.D1 (us:=us) (cs:=r) (fp:=f2) (id:=id+1) i1 (λ u hu'=>hu u (by simp[hu'])) h2 nd2
   (fr1 f2 (λ b hb=>hF b (by simp[hb])) (λ b hb cz=>nd3 b cz b hb rfl)) (λ p hp=>by unfold gC;rw[eZ p hp];exact aX p (by simp[ca,hp])) d2 (λ j hj=>hR j (by omega))
  refine⟨G2,lk2,λ i=>?_,k2,e1.trans k3,⟨c1.ext k3,k4⟩,λ fq hq Co=>k5 fq (fr1 fq hq λ b hb cz=>Co b hb (by simp[cz])) λ b hb cz=>Co b hb (by simp[cz])⟩;rw[k1 i];simp only[ca];unfold gC;have b2c:∀ (r r':List (Nat×aD)) (j:Nat),af (r++r') j=match af r j with|some o=>some o|none=>af r' j:=by
   intro r r' j;induction r with
   | nil=>rfl
   | cons p r ih =>
    obtain⟨k,o⟩:=p;rw[b4U,dB,dB];by_cases hj:j=k
    .simp[hj]
    .simpa [hj] using ih
  rw[b2c];cases hx:af (ca (id+1) us) i with
  | none=>simp only[];cases af (fJ id u) i<;>rfl
  | some o =>
   simp only[];have hm:=fE hx;rw[eZ _ hm]
theorem Mt(s:aS)(y:s.den):∀ u∈s.cells y,u.τ.agg=false:=λ u hu=>by
 have:=aS.qy s y u hu;obtain⟨bj,z'⟩:=u;cases bj with
 | st s'=>simp[TV.aQ,Ty.aQ,aS.cA,D.leaf] at this
 | _=>rfl
theorem TR.ext{G':Gh}{lk':Nat->Option aD}(e:Ext G lk G' lk'){v:AV}{x:Value}(h:TR c G lk w v x):TR c G' lk' w v x:=by
 cases v with
 | any=>trivial
 | aI v=>exact eK.mono (G:=G) (G':=G') h (λ b hb=>by rw[e.S];exact hb) (λ _ _=>rfl)
 | aw i=>exact C1.ext (c:=c) (w:=w) (v := .aw i) e h
 | dc v=>exact C1.ext (c:=c) (w:=w) (v := .dc v) e h
 | agg cs =>
  obtain⟨l,h1,h2⟩:=h;exact⟨l,h1,h2.imp λ u y _ hy=>hy.ext e⟩
 | _=>exact h.elim
theorem TR.gu{v:AV}{x:Value}(h:TR c G lk w v x):VR c G lk w v x:=by
 cases v with
 | any=>trivial
 | aI v=>exact h
 | aw i=>exact h
 | dc v=>exact h
 | agg cs=>exact h
 | _=>exact h.elim
theorem C1.b2U{id:Nat}{u:TV}{x:Value}(h:C1 c G lk w (iO id u) x)(hu:u.τ.agg=false):TR c G lk w (iO id u) x:=by
 obtain⟨τ,y⟩:=u;cases τ with
 | slice t=>exact h
 | mv t=>exact h
 | ptr=>exact h.2
 | st s=>cases hu
 | int k=>exact h.2
 | bool=>exact h.2
 | str=>exact h.2
theorem bw.Vy{v:TV}{x:Value}{fp:List Nat}{id:Nat}{G:Gh}{lk:Nat->Option aD}(h:bw c G sl n lk a w)(hO:DZ w v x fp)(cU:fp.Nodup)(hF:Fr c G lk w fp)
  (aX:∀ p∈ca id v.cells,lk p.1=none) (sM:((ca id v.cells).map (·.1)).Nodup) (hR:∀ j,id<=j->c.R j=none) :
  ∃ G' lk',(∀ i,lk' i=gC (ca id v.cells) lk i)/\bw c G' sl n lk' a w/\Ext G lk G' lk'/\TR c G' lk' w (fg id v) x/\∀ fq,Fr c G lk w fq->(∀ b∈fq,b∉fp)->Fr c G' lk' w fq:=by
 have one:v.τ.agg=false->v.cells=[v]->fg id v=iO id v->Ow w v.aQ [x] fp->∃ G' lk',(∀ i,lk' i=gC (ca id v.cells) lk i)/\bw c G' sl n lk' a w/\Ext G lk G' lk'/\TR c G' lk' w (fg id v) x/\∀ fq,Fr c G lk w fq->(∀ b∈fq,b∉fp)->Fr c G' lk' w fq:=by
  intro hv hc hov hO;rw[hc] at aX sM;obtain⟨G',lk',k1,k2,k3,k4,k5⟩:=h.D1 (us:=[v]) (cs:=[x]) (fp:=fp) (by simpa using hv) ⟨x,[],fp,[],rfl,by simp,hO,rfl,rfl⟩ cU hF aX sM hR;rw[hc,hov];exact⟨G',lk',k1,k2,k3,C1.b2U k4.1 hv,k5⟩
 obtain⟨τ,y⟩:=v;cases τ with
 | st s =>
  obtain⟨cs,rfl,hO⟩:=hO;rw[aS.cA] at hO;obtain⟨G',lk',k1,k2,k3,k4,k5⟩:=h.D1 (us:=s.cells y) (cs:=cs) (fp:=fp) (Mt s y) hO cU hF aX sM hR;exact⟨G',lk',k1,k2,k3,⟨cs,rfl,k4⟩,k5⟩
 | slice t=>exact one rfl rfl rfl hO
 | mv t=>exact one rfl rfl rfl hO
 | ptr=>exact one rfl rfl rfl hO
 | int k=>exact one rfl rfl rfl hO
 | bool=>exact one rfl rfl rfl hO
 | str=>exact one rfl rfl rfl hO
theorem a5V{r r':List (Nat×aD)}(hd:∀ p∈r',af r p.1=none)(lk:Nat->Option aD)(i:Nat):gC r' (gC r lk) i=gC (r++r') lk i:=by
 rw[T5];unfold gC;cases hx:af r' i with
 | none=>rfl
 | some o =>
  have:=hd _ (fE hx);simp only[] at this ⊢;rw[this]
theorem bw.OQ:∀ {vs:List TV} {xs:List Value} {fp:List Nat} {id:Nat} {G:Gh} {lk:Nat->Option aD},bw c G sl n lk a w->OM w vs xs fp->fp.Nodup->Fr c G lk w fp ->
  (∀ p∈bz id vs,lk p.1=none)->((bz id vs).map (·.1)).Nodup->(∀ j,id<=j->c.R j=none) ->
  ∃ G' lk',(∀ i,lk' i=gC (bz id vs) lk i)/\bw c G' sl n lk' a w/\Ext G lk G' lk'/\aV (TR c G' lk' w) (Q2 id vs) xs/\∀ fq,Fr c G lk w fq->(∀ b∈fq,b∉fp)->Fr c G' lk' w fq
 | [],[],fp,id,G,lk,h,_,_,_,_,_,_=>⟨G,lk,λ _=>rfl,h,Ext.refl _ _,U,λ fq hq _=>hq⟩
 | v::vs,x::xs,fp,id,G,lk,h,hO,cU,hF,aX,sM,hR=>by
  obtain⟨f1,f2,rfl,h1,h2⟩:=hO;rw[b4h] at cU;obtain⟨nd1,nd2,nd3⟩:=cU;simp only[bz,b5B] at sM;rw[b4h] at sM;obtain⟨d1,d2,d3⟩:=sM;obtain⟨G1,E1,l1,i1,e1,c1,fr1⟩:=h.Vy (id:=id) h1 nd1 (λ b hb=>hF b (by simp[hb])) (λ p hp=>aX p (by simp[bz,hp])) d1 hR;have eZ:∀ p∈bz (id+20) vs,af (ca id v.cells) p.1=none:=λ p hp=>XH λ q hq e=>d3 q.1 (b3N.2 ⟨q,hq,rfl⟩) p.1 (b3N.2 ⟨p,hp,rfl⟩) e;obtain⟨G2,lk2,k1,k2,k3,k4,k5⟩:=bw.OQ (vs:=vs) (xs:=xs) (fp:=f2) (id:=id+20) i1 h2 nd2
   (fr1 f2 (λ b hb=>hF b (by simp[hb])) (λ b hb cz=>nd3 b cz b hb rfl)) (λ p hp=>by rw[l1 p.1];unfold gC;rw[eZ p hp];exact aX p (by simp[bz,hp])) d2 (λ j hj=>hR j (by omega))
  refine⟨G2,lk2,λ i=>?_,k2,e1.trans k3,⟨c1.ext k3,k4⟩,λ fq hq Co=>k5 fq (fr1 fq hq λ b hb cz=>Co b hb (by simp[cz])) λ b hb cz=>Co b hb (by simp[cz])⟩;rw[k1 i,show E1=gC (ca id v.cells) lk from funext l1];exact a5V eZ lk i
 | [],_::_,_,_,_,_,_,hO,_,_,_,_,_=>hO.elim
 | _::_,[],_,_,_,_,_,hO,_,_,_,_,_=>hO.elim
theorem qz(r r':List (Nat×aD))(i:Nat):af (r++r') i=gC r (af r') i:=by
 unfold gC;induction r with
 | nil=>rfl
 | cons p r ih =>
  obtain⟨k,o⟩:=p;rw[b4U,dB,dB];by_cases hj:i=k
  .simp[hj]
  .simpa [hj] using ih
theorem Ol{id:Nat}{res:List TV}{x:Value}{fp:List Nat}(h:wG w res x fp):∃ xs,OM w res xs fp/\∀ (G:Gh) (lk:Nat->Option aD),aV (TR c G lk w) (Q2 id res) xs->VR c G lk w (kP id res) x:=by
 match res,h with
 | [v],h=>exact⟨[x],⟨fp,[],by simp,h,rfl⟩,λ G lk ha=>ha.1.gu⟩
 | [],h =>
  obtain⟨l,h1,h2⟩:=h;exact⟨l,h2,λ G lk ha=>⟨l,h1,ha⟩⟩
 | v::u::r,h =>
  obtain⟨l,h1,h2⟩:=h;exact⟨l,h2,λ G lk ha=>⟨l,h1,ha⟩⟩
end
section
variable {c:Ctx} {G:Gh} {s:ah} {a:Act} {w w':World}
theorem cX:∀ {l:List Nat},nodupB l=true->l.Nodup
 | [],_=>b4Q
 | a::r,h=>by
  simp only[nodupB] at h;split at h
  .cases h
  .rename_i hc;exact List.nodup_cons.2 ⟨by simpa using hc,cX h⟩
theorem Ye(hE:bH c.P c.E)(h:Inv c G s a w){o:Oper}{f:FuncId}{Ts:List TypeId}{vs:List AV}{xs:List Value}{Z9:List Arg}{pre:Vc}{res:List TV}{d b:Nat}{Q:Exit->Act->World->Prop}
  (has:nf c.E s.af Ts vs=some Z9) (lB:aV (VR c G s.af w) vs xs) (hc:c.E.QF f Z9=some (pre,res)) (AD:pre.ok) (hd:o.dst=some d)
  (xm:∀ p∈bz b res,s.af p.1=none) (sM:((bz b res).map (·.1)).Nodup) (hR:100<=b)
  (cH:jQ c.P f->(execOp a.eval o).run c.P w = .ok (.enter f xs.toArray) w) :
  o.wp c.P a w (λ a' w'=>∃ G',Inv c G' { aB:=s.aB.set d (kP b res),aN:=bz b res++s.aN } a' w') Q:=by
 obtain⟨od,iW⟩:=hE.QF f Z9 pre res hc AD;unfold Oper.wp;rw[cH od];simp only[Oper.upon];refine (iW w (SX G s.af) xs [] ?_ (.X5 (iq hE h (λ _ _ h=>h) (λ _ h => .inl h) (λ τ v x y h1 h2=>Fv h.aP h.aN (λ _ _ h=>h) h1 h2) has lB)) (.inl rfl) List.nodup_nil (by simp)).mono ?_
 .exact h.a5y
 .rintro e w' ⟨x,fp,rfl,hk,hO,cU,pE⟩;have hk:bE (λ _=>False) w w':=⟨hk.os,hk.tape,hk.output,hk.size,λ b hb _=>hk.block b hb (by simp)⟩;have pE:∀ b∈fp,w.heap.size<=b/\b<w'.heap.size:=λ b hb=>(pE b hb).resolve_left (by simp);have hI:=bw.grow h hk (S':=G.S) (λ _ _=>b5G) (λ b hb=>b3X (h.dH b hb) hk.size);obtain⟨ys,qF,UE⟩:=Ol (c:=c) (id:=b) hO;have hF:Fr c ⟨G.S,G.η,G.φ⟩ s.af w' fp:=λ b hb=>by
   obtain⟨h1,h2⟩:=pE b hb;have:=h.aR.size;refine⟨.inl (by omega),λ hs=>?_,h2,λ i o' hi rh=>?_,λ j τ zs hj oa=>?_⟩
   .have:=h.dH b hs;omega
   .have:=(h.place i o' b hi rh).2.2;omega
   .have:=(h.aP.pl j τ zs b hj oa).2.2.1;omega
  obtain⟨G',lk',k1,k2,k3,k4,_⟩:=hI.OQ (id:=b) qF cU hF xm sM (λ j hj=>by
   cases hr:c.R j with
   | none=>rfl
   | some v=>have:=h.iP j v hr;omega)
  refine⟨G',?_⟩;have cF:ah.af { aB:=s.aB.set d (kP b res),aN:=bz b res++s.aN }=lk':=by
   funext i;rw[k1 i];exact qz _ _ i
  unfold Inv;rw[cF,hd,show ah.sl { aB:=s.aB.set d (kP b res),aN:=bz b res++s.aN }=j9 s.aB.length s.sl (some d) (kP b res) from sy s.aB d _ _,
   show ({ aB:=s.aB.set d (kP b res),aN:=bz b res++s.aN }:ah).aB.length=s.aB.length from by simp]
  exact bw.put k2 (UE G' lk' k4)
end
theorem fc{α:Type}:∀ {l:List (Nat×α)} {id:Nat} {o:α},af l id=some o->(id,o)∈l
 | (k,p)::r,id,o,h=>by
  simp only[af] at h;split at h
  .rename_i hk;have hk:=b3G hk;simp only[b3C] at h;subst hk h;simp
  .exact b5m _ (fc h)
theorem zd{α:Type}:∀ {l:List (Nat×α)} {id:Nat} {o:α},(l.map (·.1)).Nodup->(id,o)∈l->af l id=some o
 | (k,p)::r,id,o,hd,h=>by
  simp only[b4A,b4x] at hd;simp only[af];rcases b3Z.1 h with e|h
  .simp only[b3F] at e;obtain⟨rfl,rfl⟩:=e;simp
  .split
   .rename_i hk;have hk:=b3G hk;subst hk;exact absurd (b3N.2 ⟨_,h,rfl⟩) hd.1
   .exact zd hd.2 h
section
variable {c:Ctx} {G:Gh} {sl:Nat->AV} {n:Nat} {lk:Nat->Option aD} {a:Act} {w w':World}
abbrev TE:=Value×List Nat×aD
def J3(A:List (Nat×TE))(G:Gh)(i:Nat):Value:=match af A i with
 | some e=>e.1
 | none=>G.η i
def C5(A:List (Nat×TE))(G:Gh)(i:Nat):List Nat:=match af A i with
 | some e=>e.2.1
 | none=>G.φ i
def Vx(A:List (Nat×TE))(lk:Nat->Option aD)(i:Nat):Option aD:=match af A i with
 | some e=>some e.2.2
 | none=>lk i
structure a1B(G:Gh)(lk:Nat->Option aD)(w':World)(id:Nat)(e:TE):Prop where
 ex:∃ τ xs cV v l l',lk id=some (.aw τ xs)/\e.2.2 = .aw τ cV/\G.η id = .tuple (v::l).toArray/\e.1 = .tuple (v::l').toArray/\il w' e.1 τ cV e.2.1/\e.2.1.Nodup
theorem LO.ofList{A:List (Nat×TE)}(hA:∀ p∈A,a1B G lk w' p.1 p.2)(a3O:∀ p∈A,∀ b∈p.2.2.1,(∃ q∈A,b∈G.φ q.1)\/yR c G lk w' b)(hap:∀ p∈A,∀ q∈A,∀ b∈p.2.2.1,b∈q.2.2.1->p.1=q.1)(cU:(A.map (·.1)).Nodup)
  (b0P:∀ b,b<w.heap.size->(∀ p∈A,b∉G.φ p.1)->w'.heap[b]?=w.heap[b]?) (hos:w'.os=w.os) (a3R:w'.tape=w.tape) (Z0:w'.output=w.output) (R4:w.heap.size<=w'.heap.size) :
  LO c G lk (Vx A lk) w w' (J3 A G) (C5 A G) (λ i=>∃ e,af A i=some e) where
 same id hi:=by
  have:af A id=none:=by
   cases hx:af A id with
   | none=>rfl
   | some e=>exact absurd ⟨e,hx⟩ hi
  simp[Vx,J3,C5,this]
 aw id:=by
  rintro⟨e,he⟩;obtain⟨τ,xs,cV,v,l,l',h1,h2,h3,h4,h5,h6⟩:=(hA _ (fc he)).ex;refine⟨τ,xs,cV,v,l,l',h1,?_,h3,?_,?_,?_⟩
  .simp only[Vx,he];rw[<-h2]
  .simp only[J3,he];exact h4
  .simp only[J3,C5,he];exact h5
  .simp only[C5,he];exact h6
 a9O id b:=by
  rintro⟨e,he⟩ hb;simp only[C5,he] at hb;rcases a3O _ (fc he) b hb with ⟨q,hq,hbq⟩|hfr
  .exact .inl ⟨q.1,⟨q.2,zd cU hq⟩,hbq⟩
  .exact .inr hfr
 apart id dx b:=by
  rintro⟨e,he⟩ ⟨e',EK⟩ hb cz;simp only[C5,he] at hb;simp only[C5,EK] at cz;exact hap _ (fc he) _ (fc EK) b hb cz
 heap b hb hn:=b0P b hb λ p hp=>hn p.1 ⟨p.2,zd cU hp⟩
 os:=hos
 tape:=a3R
 output:=Z0
 size:=R4
def yS(G:Gh)(lk:Nat->Option aD)(ids:List Nat)(b:Nat):Prop :=
 ∃ id∈ids,(∃ τ xs,lk id=some (.aw τ xs)/\b∈G.φ id)\/∃ e τ xs,lk id=some (.row e τ xs)/\ew (G.η id)=some b
theorem yS.mono{ids I8:List Nat}{b:Nat}(h:yS G lk ids b)(hs:∀ i∈ids,i∈I8):yS G lk I8 b:=by
 obtain⟨id,hi,h⟩:=h;exact⟨id,hs id hi,h⟩
theorem bw.iX(h:bw c G sl n lk a w){i j:List Nat}{b:Nat}(hi:yS G lk i b)(hj:yS G lk j b)(hd:∀ x∈i,∀ y∈j,x≠y):False:=by
 obtain⟨x,hx,h1⟩:=hi;obtain⟨y,hy,h2⟩:=hj;rcases h1 with ⟨τ,xs,k1,k2⟩|⟨e,τ,xs,k1,k2⟩<;>rcases h2 with ⟨bj,cV,m1,m2⟩|⟨e',bj,cV,m1,m2⟩
 .exact hd x hx y hy (h.aP.ap x y τ bj xs cV b k1 m1 k2 m2)
 .exact (h.aP.pl x τ xs b k1 k2).2.2.2 y _ m1 m2
 .exact (h.aP.pl y bj cV b m1 m2).2.2.2 x _ k1 k2
 .exact hd x hx y hy (h.apart x y _ _ b k1 m1 k2 m2)
theorem wz{τ:Ty}(h:τ.C3=true)(y:τ.den):(τ.aQ y).light=true:=by
 cases τ<;>first|rfl|cases h
theorem XF:∀ {l:List D},(∀ d∈l,d.light=true)->D.Kk l=true
 | [],_=>rfl
 | d::ds,h=>by
  simp only[D.Kk,b3J];exact⟨h d (by simp),XF λ e he=>h e (b5m _ he)⟩
theorem a1o{τ:Ty}(h:τ.plain=true)(y:τ.den):(τ.aQ y).light=true:=by
 cases τ with
 | st s =>
  show (s.aQ y).light=true;rw[aS.cA];refine XF λ d hd=>?_;obtain⟨u,hu,rfl⟩:=b3N.1 hd;have ht:u.τ∈s.zT:=by rw[<-aS.sQ s y];exact b3N.2 ⟨u,hu,rfl⟩
  exact wz (b4C.1 h _ ht) u.x
 | slice t=>cases h
 | mv t=>cases h
 | ptr=>rfl
 | int k=>rfl
 | bool=>rfl
 | str=>rfl
theorem C4(h:bw c G sl n lk a w){τ:Ty}{v:AV}{x:Value}{y:τ.den}{ids:List Nat}(ht:dY lk τ v=some (y,ids))(hv:C1 c G lk w v x):∃ fp,Ow w (τ.aQ y) [x] fp/\fp.Nodup/\∀ b∈fp,yS G lk ids b:=by
 cases v with
 | aI u =>
  simp only[dY] at ht;split at ht
  .rename_i y' hs hy;simp only[b3C,b3F] at ht;obtain⟨rfl,rfl⟩:=ht;have e:=TV.aW hy;subst e;exact⟨[],Ow.eo _ (wz hs _) hv.2,b4Q,by simp⟩
  .cases ht
 | nil =>
  cases τ with
  | slice t =>
   simp only[dY,b3C,b3F] at ht;obtain⟨rfl,rfl⟩:=ht;exact⟨[],⟨none,0,by rw[show x=_ from hv];rfl,by simp,by simp[maxLen],by simp, .inl ⟨rfl,⟨rfl,rfl⟩,rfl⟩⟩,b4Q,by simp⟩
  | _=>cases ht
 | aw id =>
  simp only[dY] at ht;split at ht
  .rename_i bj xs hl;split at ht
   .rename_i y' hy;simp only[b3C,b3F] at ht;obtain⟨rfl,rfl⟩:=ht;have e:=TV.aW hy;cases e;obtain⟨_,l,h2,_⟩:=hv;exact⟨G.φ id,Ow.a8a (h.aP.tr id bj xs hl) h2,h.aP.nd id bj xs hl,λ b hb=>⟨id,by simp, .inl ⟨bj,xs,hl,hb⟩⟩⟩
   .cases ht
  .cases ht
 | row id =>
  simp only[dY] at ht;split at ht
  .rename_i e bj xs hl;split at ht
   .rename_i y' hp hy;simp only[b3C,b3F] at ht;obtain⟨rfl,rfl⟩:=ht;have e1:=TV.aW hy;cases e1;obtain⟨hx,_,_⟩:=hv;obtain⟨l,h1,h2,h3⟩:=h.aN id _ hl;have Qa:∀ d∈xs.map bj.aQ,d.light=true:=λ d hd=>by
     obtain⟨z,_,rfl⟩:=b3N.1 hd;exact a1o hp z
    rcases h1.2 with ⟨hv',hn⟩|⟨g,cap,cur,hv',_,hh,Uz,hcm,kr,htk⟩
    .have lB:xs=[]:=b4L hn;subst lB;exact⟨[],⟨none,0,by rw[hx,hv'];rfl,by simp,by simp[maxLen],by simp, .inl ⟨rfl,⟨rfl,rfl⟩,rfl⟩⟩,b4Q,by simp⟩
    .refine⟨[g],⟨some ⟨g,0,none⟩,cap,by rw[hx,hv'];simp,by simpa using Uz,hcm,by simpa using h3, .inr ⟨g,[],cur.toList,e,rfl,rfl,by simpa using hh,?_⟩⟩,by simp,λ b hb=>?_⟩
     .have hr:=bR.eo (w:=w) (S:=G.S) (xs.map bj.aQ) (l:=l) (m:=cur.toList.drop (xs.length * bj.size)) Qa h2;rw[<-htk,b4S] at hr;exact⟨by rw[b4K];exact kr,hr⟩
     .simp only[b4m] at hb;subst hb;exact⟨id,by simp, .inr ⟨e,bj,xs,hl,by rw[hv'];rfl⟩⟩
   .cases ht
  .cases ht
 | _=>cases ht
theorem eb{l1 l2:List Nat}(h1:l1.Nodup)(h2:l2.Nodup)(h3:∀ x∈l1,x∉l2):(l1++l2).Nodup:=by
 rw[b4h];exact⟨h1,h2,λ x hx y hy e=>h3 x hx (e ▸ hy)⟩
theorem Rj(h:bw c G sl n lk a w):∀ {cs:List AV} {ts:List Ty} {us:List TV} {ids:List Nat} {l:List Value},uW lk cs ts=some (us,ids)->aV (C1 c G lk w) cs l->ids.Nodup ->
  ∃ fp,cZ w (us.map TV.aQ) l fp/\fp.Nodup/\(∀ b∈fp,yS G lk ids b)/\us.map TV.τ=ts
 | [],[],us,ids,l,ht,hl,_=>by
  simp only[uW,b3C,b3F] at ht;obtain⟨rfl,rfl⟩:=ht;match l,hl with
  | [],_=>exact⟨[],⟨rfl,rfl⟩,b4Q,by simp,rfl⟩
 | cc::cs,t::ts,us,ids,l,ht,hl,cU=>by
  simp only[uW] at ht;split at ht
  .rename_i x i hx;split at ht
   .rename_i r j hr;simp only[b3C,b3F] at ht;obtain⟨rfl,rfl⟩:=ht;match l,hl with
    | v::l,hl =>
     rw[b4h] at cU;obtain⟨n1,n2,n3⟩:=cU;obtain⟨f1,a1,a2,a3⟩:=C4 h hx hl.1;obtain⟨f2,b1,b2,b3,b4⟩:=Rj h hr hl.2 n2;refine⟨f1++f2,⟨v,l,f1,f2,rfl,rfl,a1,b1⟩,eb a2 b2 λ b hb cz=>h.iX (a3 b hb) (b3 b cz) (λ x hx y hy=>n3 x hx y hy),λ b hb=>?_,by simp[b4]⟩;rcases b3H.1 hb with hb|hb
     .exact (a3 b hb).mono λ k hk=>by simp[hk]
     .exact (b3 b hb).mono λ k hk=>by simp[hk]
   .cases ht
  .cases ht
 | [],_::_,_,_,_,ht,_,_=>by cases ht
 | _::_,[],_,_,_,ht,_,_=>by cases ht
theorem mZ(h:bw c G sl n lk a w){τ:Ty}{v:AV}{x:Value}{y:τ.den}{ids:List Nat}(ht:sA lk τ v=some (y,ids))(hv:VR c G lk w v x)(cU:ids.Nodup):∃ fp,DZ w ⟨τ,y⟩ x fp/\fp.Nodup/\∀ b∈fp,yS G lk ids b:=by
 have one:(∀ cs,v ≠ .agg cs)->dY lk τ v=some (y,ids)->∃ fp,DZ w ⟨τ,y⟩ x fp/\fp.Nodup/\∀ b∈fp,yS G lk ids b:=by
  intro hna ht;have cv:∀ s,τ ≠ .st s:=λ s e=>by
   subst e;cases v with
   | aI u=>simp[dY,Ty.C3] at ht
   | nil=>simp[dY] at ht
   | aw id =>
    simp only[dY] at ht;split at ht
    .split at ht
     .rename_i hy;have e:=TV.aW hy;cases e
     .cases ht
    .cases ht
   | row id =>
    simp only[dY] at ht;split at ht
    .split at ht
     .rename_i hy;have e:=TV.aW hy;cases e
     .cases ht
    .cases ht
   | _=>cases ht
  have hc:C1 c G lk w v x:=by
   refine hv.a0t ?_;cases v with
   | aI u =>
    simp only[dY] at ht;split at ht
    .rename_i hy;have e:=TV.aW hy;subst e;cases τ<;>first|rfl|exact absurd rfl (cv _)
    .cases ht
   | nil=>rfl
   | aw id=>rfl
   | row id=>rfl
   | _=>cases ht
  obtain⟨fp,h1,h2,h3⟩:=C4 h ht hc;refine⟨fp,?_,h2,h3⟩;cases τ with
  | st s=>exact absurd rfl (cv s)
  | _=>exact h1
 cases v with
 | agg cs =>
  cases τ with
  | st s =>
   simp only[sA] at ht;split at ht
   .rename_i us i kr;split at ht
    .rename_i y' hy;simp only[b3C,b3F] at ht;obtain⟨rfl,rfl⟩:=ht;obtain⟨l,rfl,hl⟩:=hv;obtain⟨fp,h1,h2,h3,_⟩:=Rj h kr hl cU;refine⟨fp,⟨l,rfl,?_⟩,h2,h3⟩;rw[aS.cA,aS.oP hy];exact h1
    .cases ht
   .cases ht
  | _=>cases ht
 | _=>exact one (by intro cs;simp) ht
theorem cZ.split:∀ (ds:List D) {l:List Value} {fp:List Nat} (i:Nat) (d:D),cZ w ds l fp->ds[i]?=some d ->
  ∃ v f0 f1 f2,fp=f0++f1++f2/\l[i]?=some v/\Ow w d [v] f1/\∀ (w':World) (d':D) (v':Value) (iB:List Nat),(∀ b∈f0++f2,w'.heap[b]?=w.heap[b]?)->Ow w' d' [v'] iB->cZ w' (ds.set i d') (l.set i v') (f0++iB++f2)
 | [],_,_,_,_,_,hi=>by simp at hi
 | e::ds,_,_,0,d,h,hi=>by
  obtain⟨v,r,f1,f2,rfl,rfl,h3,h4⟩:=h;simp at hi;subst hi;exact⟨v,[],f1,f2,by simp,rfl,h3,λ w' d' v' iB hw hd=>⟨v',r,iB,f2,rfl,by simp,hd,cZ.aR ds h4 λ b hb=>hw b (by simp[hb])⟩⟩
 | e::ds,_,_,i+1,d,h,hi=>by
  obtain⟨v,r,g1,g2,rfl,rfl,h3,h4⟩:=h;obtain⟨u,f0,f1,f2,rfl,k1,k2,k3⟩:=cZ.split ds i d h4 (by simpa using hi);refine⟨u,g1++f0,f1,f2,by simp,by simpa using k1,k2,λ w' d' v' iB hw hd=>?_⟩;exact⟨v,r.set i v',g1,f0++iB++f2,rfl,by simp,Ow.aR e h3 λ b hb=>hw b (by simp[hb]),k3 w' d' v' iB (λ b hb=>hw b (by simp at hb ⊢;rcases hb with hb|hb<;>simp[hb])) hd⟩
theorem T1(v:AV):v.df=v\/v.df = .any:=by unfold AV.df;split<;>simp
theorem Mb(v:AV):v.df.Ri=false:=by
 unfold AV.df;split
 .rfl
 .assumption
theorem Uf:∀ cs:List AV,AV.qb (cs.map AV.df)=false
 | []=>rfl
 | v::r=>by simp only[b4A,AV.qb,Mb];exact Uf r
theorem C1.df{v:AV}{x:Value}(h:C1 c G lk w v x):C1 c G lk w v.df x:=by
 rcases T1 v with e|e
 .rw[e];exact h
 .rw[e];trivial
theorem Ml(o:Option aD):eF o (o.map aD.df):=by
 refine⟨λ h=>?_,λ e τ xs h=>⟨e,xs,by rw[h];rfl,b4r _⟩,λ h=>?_,λ h=>?_⟩
 .match o,h with
  | some (.box cs),_=>rfl
 .match o,h with
  | some (.aw τ xs),_=>rfl
 .match o,h with
  | some (.map m),_=>rfl
theorem CS{o:Option aD}{τ:Ty}{xs:List τ.den}(h:o.map aD.df=some (.aw τ xs)):o=some (.aw τ xs):=by
 match o,h with
 | some (.aw bj cV),h=>exact h
 | some (.box _),h=>cases h
 | some (.row ..),h=>cases h
theorem bw.bZ(h:bw c G sl n lk a w):bw c G (λ i=>(sl i).df) n (λ i=>(lk i).map aD.df) a w:=by
 have h1:bw c G (λ i=>(sl i).df) n lk a w:=h.forget λ i=>T1 (sl i);exact {
  defers:=h1.defers,size:=h1.size,aR:=h1.aR,jP:=h1.jP,eu:=h1.eu,sX:=h1.sX,dH:=h1.dH
  aB:=λ i=>(h1.aB i).mono (λ j _=>⟨Ml _,rfl⟩) (λ _ h=>h) (λ _ _=>rfl)
  aN:=λ i o ho=>by
   rw[b4D] at ho;obtain⟨o',cN,rfl⟩:=ho;have hk:OR c G lk w i o'.df:=by
    have:=h1.aN i o' cN;cases o' with
    | box cs =>
     obtain⟨b,l,t,k1,k2,k3⟩:=this;exact⟨b,l,t,k1,k2,aV.ej _ (k3.imp λ u y _ hy=>hy.df)⟩
    | row e τ xs=>exact this
    | aw τ xs=>exact this
    | map m=>exact this
   exact hk.mono rfl (λ _ _=>rfl) (λ j _=>⟨Ml _,rfl⟩) (λ _ h=>h) (λ _ _=>rfl)
  place:=λ i o b ho hb=>by
   rw[b4D] at ho;obtain⟨o',cN,rfl⟩:=ho;exact h1.place i o' b cN hb
  apart:=λ i j o o' b ho cN hb cz=>by
   rw[b4D] at ho cN;obtain⟨p,hp,rfl⟩:=ho;obtain⟨q,hq,rfl⟩:=cN;exact h1.apart i j p q b hp hq hb cz
  aP:=h1.aP.sub (λ i τ xs k=>CS k) (λ i o k=>by
   rw[b4D] at k;obtain⟨p,hp,_⟩:=k;exact⟨p,hp⟩)
  root:=λ i v hr ht=>h1.root i v hr (by
   match hl:lk i,ht with
   | some (.aw ..),_=>rfl
   | some (.box _),ht=>simp[hl,aD.df,cx] at ht
   | some (.row ..),ht=>simp[hl,aD.df,cx] at ht
   | none,ht=>simp[hl,cx] at ht)
  iP:=h1.iP
  dw:=λ i v hr ht=>h1.dw i v hr (by
   match hl:lk i,ht with
   | some (.box _),_=>rfl
   | some (.aw ..),ht=>simp[hl,aD.df,fZ] at ht
   | some (.row ..),ht=>simp[hl,aD.df,fZ] at ht
   | none,ht=>simp[hl,fZ] at ht)
  fh:=h1.fh }
end
section
variable {c:Ctx} {G:Gh} {s:ah} {a:Act} {w w':World}
theorem Yv(s:ah):s.bZ.sl=λ i=>(s.sl i).df:=by
 funext i;simp only[ah.sl,ah.bZ,b3V,b5z];cases s.aB[i]?<;>rfl
theorem kG(s:ah):s.bZ.af=λ i=>(s.af i).map aD.df:=by
 funext i;exact Kl _ _ _
theorem Inv.bZ(h:Inv c G s a w):Inv c G s.bZ a w/\(∀ i,(s.bZ.sl i).Ri=false)/\∀ id cs,s.bZ.af id=some (.box cs)->AV.qb cs=false:=by
 refine⟨?_,λ i=>by rw[Yv];exact Mb _,λ id cs aX=>?_⟩
 .unfold Inv;rw[Yv,kG,show s.bZ.aB.length=s.aB.length from by simp[ah.bZ]];exact bw.bZ h
 .rw[kG] at aX;simp only[b4D] at aX;obtain⟨o,_,ho⟩:=aX;cases o with
  | box dA=>cases ho;exact Uf dA
  | row e τ xs=>cases ho
  | aw τ xs=>cases ho
  | map m=>cases ho
theorem Inv.VT(h:Inv c G s a w){A:List (Nat×TE)}(hA:∀ p∈A,a1B G s.af w' p.1 p.2)(a3O:∀ p∈A,∀ b∈p.2.2.1,(∃ q∈A,b∈G.φ q.1)\/yR c G s.af w' b)(hap:∀ p∈A,∀ q∈A,∀ b∈p.2.2.1,b∈q.2.2.1->p.1=q.1)(cU:(A.map (·.1)).Nodup)
  {F:Nat->Prop} (hk:bE F w w') (hF:∀ b,F b->∃ p∈A,b∈G.φ p.1) {t:ah} (hts:t.aB=s.bZ.aB) (HN:∀ i,t.af i=Vx A s.bZ.af i) {d:Option Nat} {v:AV} {x:Value} (hv:∀ G' lk,VR c G' lk w' v x) :
  ∃ G',Inv c G' (t.put d v) (a.put d x) w':=by
 obtain⟨h1,h2,h3⟩:=h.bZ;have hA':∀ p∈A,a1B G s.bZ.af w' p.1 p.2:=λ p hp=>by
  obtain⟨τ,xs,cV,v,l,l',k1,k2⟩:=(hA p hp).ex;exact⟨τ,xs,cV,v,l,l',by rw[kG];simp[k1,aD.df],k2⟩
 have a8V:∀ p∈A,∀ b∈p.2.2.1,(∃ q∈A,b∈G.φ q.1)\/yR c G s.bZ.af w' b:=λ p hp b hb=>(a3O p hp b hb).imp id λ ⟨q1,q2,q3,q4,q5⟩ =>
  ⟨q1,q2,q3,λ i o hi=>by
   rw[kG] at hi;simp only[b4D] at hi;obtain⟨o',cN,_⟩:=hi;exact q4 i o' cN,λ j τ xs hj=>q5 j τ xs (by rw[kG] at hj;exact CS hj)⟩
 have T:=LO.ofList (c:=c) (w:=w) hA' a8V hap cU (λ b hb hn=>hk.block b hb λ hf=>by
  obtain⟨p,hp,hbp⟩:=hF b hf;exact hn p hp hbp) hk.os hk.tape hk.output hk.size
 have hI:=bw.fi h1 T h2 h3;refine⟨_,Inv.put (G:=⟨G.S,J3 A G,C5 A G⟩) ?_ (hv _ _)⟩;unfold Inv;rw[show t.sl=s.bZ.sl from by funext i;simp only[ah.sl,hts],show t.af=Vx A s.bZ.af from funext HN,hts];exact hI
theorem Rk(id:Nat)(e:TE)(lk:Nat->Option aD)(i:Nat):Vx [(id,e)] lk i=if i=id then some e.2.2 else lk i:=by
 unfold Vx;simp only[af];by_cases hi:i=id
 .subst hi;simp
 .have:Nat.beq id i=false:=by
   cases hb:Nat.beq id i with
   | false=>rfl
   | true=>exact absurd (b3G hb).symm hi
  simp[this,hi]
theorem fI(s:ah)(id:Nat)(τ:Ty)(xs:List τ.den)(i:Nat):(s.dE id τ xs).af i=if i=id then some (.aw τ xs) else s.af i:=by
 show af ((id,_)::bS id s.aN) i=_;rw[dB,eC];by_cases hi:i=id
 .simp[hi]
 .simp[hi];rfl
theorem Q5{lk:Nat->Option aD}{k:Int}(h:O k):VR c G lk w (.aI ⟨.int .i64,k⟩) (.int .i64 k):=by
 refine⟨rfl,?_⟩;simp only[IntKind.min,IntKind.max,IntKind.signed,IntKind.bits,b5y];obtain⟨q1,q2⟩:=h;constructor<;>omega
theorem WN(h:Inv c G s a w){b:Nat}(h1:w.heap.size<=b)(h2:b<w'.heap.size):yR c G s.af w' b:=by
 have:=h.aR.size;refine⟨.inl (by omega),λ hs=>by have:=h.dH b hs;omega,h2,λ i o hi rh=>by have:=(h.place i o b hi rh).2.2;omega,λ j τ xs hj oa=>by have:=(h.aP.pl j τ xs b hj oa).2.2.1;omega⟩
theorem Vh(hE:bH c.P c.E)(h:Inv c G s a w){o:Oper}{f:FuncId}{τ:Ty}{g:(Ty.slice τ).den->Int->Vc×(Ty.slice τ).den×Int}(hm:c.E.mark f=some ⟨.slice τ,g⟩){id:Nat}{xs:List τ.den}(aX:s.af id=some (.aw τ xs)){k:Int}{v z:Value}{d:Nat}
  (hv:VR c G s.af w (.aw id) v) (hz:VR c G s.af w (.aI ⟨.int .i64,k⟩) z) (AD:(g xs k).1.ok) (hd:o.dst=some d) (cH:jQ c.P f->(execOp a.eval o).run c.P w = .ok (.enter f [v,z].toArray) w) {Q:Exit->Act->World->Prop} :
  o.wp c.P a w (λ a' w'=>∃ G',Inv c G' ((s.bZ.dE id τ (g xs k).2.1).put (some d) (.aI ⟨.int .i64,(g xs k).2.2⟩)) a' w') Q:=by
 obtain⟨od,iW⟩:=hE.mark f _ hm;obtain⟨Y1,hz2,hz3⟩:=hz;simp only[b3O,b3T] at Y1;subst Y1;obtain⟨_,l,eH,Lf⟩:=hv;have hO:=Ow.a8a (h.aP.tr id τ xs aX) eH;have a2n:O k:=by
  simp only[IntKind.min,IntKind.max,IntKind.signed,IntKind.bits,b5y] at hz2 hz3;constructor<;>omega
 unfold Oper.wp;rw[cH od];simp only[Oper.upon];refine (iW xs k w v (G.φ id) AD a2n (h.a7m λ b hb=>(h.aP.pl id τ xs b aX hb).2.1) hO (h.aP.nd id τ xs aX) λ b hb=>(h.aP.pl id τ xs b aX hb).2.2.1).mono ?_;rintro e w' ⟨rfl,eY,hk,yZ,qF,TY,vS⟩;obtain⟨l',hT,_⟩:=il.a1k (τ:=τ) qF;rw[hd];show ∃ G',Inv c G' ((s.bZ.dE id τ (g xs k).2.1).put (some d) (.aI ⟨.int .i64,(g xs k).2.2⟩)) (a.put (some d) (.int .i64 (g xs k).2.2)) w';refine h.VT (w':=w') (t:=s.bZ.dE id τ (g xs k).2.1) (A:=[(id,(.tuple (v::l').toArray,yZ, .aw τ (g xs k).2.1))]) ?_ ?_ ?_ (by simp) hk (λ b hb=>⟨_,List.mem_singleton.2 rfl,hb⟩) rfl (λ i=>?_) (λ G' lk=>Q5 eY)
 .intro p hp;simp only[b4m] at hp;subst hp;exact⟨τ,xs,_,v,l,l',aX,rfl,eH,rfl,hT,TY⟩
 .intro p hp b hb;simp only[b4m] at hp;subst hp;rcases vS b hb with q|q
  .exact .inl ⟨_,b4m.2 rfl,q⟩
  .exact .inr (WN h q.1 q.2)
 .intro p hp q hq b _ _;simp only[b4m] at hp hq;rw[hp,hq]
 .rw[Rk,fI]
theorem CY{f0 f1 f2 iB:List Nat}(h:(f0++f1++f2).Nodup)(h1:iB.Nodup)(hs:∀ b∈iB,b∈f1\/(b∉f0/\b∉f2)):(f0++iB++f2).Nodup:=by
 rw[b4h,b4h] at h;obtain⟨⟨a1,a2,a3⟩,a4,a5⟩:=h;refine eb (eb a1 h1 λ x hx EP=>(hs x EP).elim (λ q=>a3 x hx x q rfl) λ q=>q.1 hx) a4 λ x hx EP=>?_;rcases b3H.1 hx with hx|hx
 .exact a5 x (by simp[hx]) x EP rfl
 .exact (hs x hx).elim (λ q=>a5 x (by simp[q]) x EP rfl) λ q=>q.2 EP
theorem Ub{w:World}{τ LM:Ty}{x:τ.den}{off:Nat}{u:TV}(hu:TV.part ⟨τ,x⟩ off LM=some u)(cv:LM.agg=false){ce:List Value}{fp:List Nat}(hO:Ow w (τ.aQ x) ce fp) :
  ∃ v f0 f1 f2,fp=f0++f1++f2/\ce[off]?=some v/\Ow w u.aQ [v] f1/\∀ (w':World) (u':TV) (y:τ.den) (v':Value) (iB:List Nat),lf τ x off u'=some y->(∀ b∈f0++f2,w'.heap[b]?=w.heap[b]?)->Ow w' u'.aQ [v'] iB->Ow w' (τ.aQ y) (ce.set off v') (f0++iB++f2):=by
 cases τ with
 | st s =>
  have xl:(s.cells x)[off]?=some u:=by
   unfold TV.part at hu;split at hu
   .rename_i hb;simp only[b3J] at hb;have:=b4u hb.2;have e:Ty.st s=LM:=this;subst e;cases cv
   .split at hu
    .rename_i z hz;split at hu
     .simp only[b3C] at hu;subst hu;exact hz
     .cases hu
    .cases hu
  rw[show Ty.aQ (.st s) x=s.aQ x from rfl,aS.cA] at hO;obtain⟨v,f0,f1,f2,h1,h2,h3,h4⟩:=cZ.split _ off u.aQ hO (by rw[b5z,xl];rfl);refine⟨v,f0,f1,f2,h1,h2,h3,λ w' u' y v' iB hp hw qF=>?_⟩;simp only[lf,xl] at hp;split at hp
  .have hy:=aS.oP hp;rw[show Ty.aQ (.st s) y=s.aQ y from rfl,aS.cA,hy,b6G];exact h4 w' u'.aQ v' iB hw qF
  .cases hp
 | slice t =>
  have oL:off=0/\u=⟨.slice t,x⟩:=by
   unfold TV.part at hu;split at hu
   .rename_i hb;simp only[b3J] at hb;simp only[b3C] at hu;exact⟨b3G hb.1,hu.symm⟩
   .split at hu
    .rename_i z hz;cases off with
     | zero=>simp[TV.cells] at hz;subst hz;split at hu<;>simp_all
     | succ k=>simp[TV.cells] at hz
    .cases hu
  obtain⟨rfl,rfl⟩:=oL;have hl:=Ow.length _ hO;match ce,hl with
  | [v],_ =>
   refine⟨v,[],fp,[],by simp,rfl,hO,λ w' u' y v' iB hp _ qF=>?_⟩;simp only[lf] at hp;have e:=TV.aW hp;subst e;rw[b4i,b4W];exact qF
 | mv t =>
  have oL:off=0/\u=⟨.mv t,x⟩:=by
   unfold TV.part at hu;split at hu
   .rename_i hb;simp only[b3J] at hb;simp only[b3C] at hu;exact⟨b3G hb.1,hu.symm⟩
   .split at hu
    .rename_i z hz;cases off with
     | zero=>simp[TV.cells] at hz;subst hz;split at hu<;>simp_all
     | succ k=>simp[TV.cells] at hz
    .cases hu
  obtain⟨rfl,rfl⟩:=oL;have hl:=Ow.length _ hO;rw[Ty.cP] at hl;match ce,hl with
  | [v],_ =>
   refine⟨v,[],fp,[],by simp,rfl,hO,λ w' u' y v' iB hp _ qF=>?_⟩;simp only[lf] at hp;have e:=TV.aW hp;subst e;rw[b4i,b4W];exact qF
 | ptr =>
  have oL:off=0/\u=⟨.ptr,x⟩:=by
   unfold TV.part at hu;split at hu
   .rename_i hb;simp only[b3J] at hb;simp only[b3C] at hu;exact⟨b3G hb.1,hu.symm⟩
   .split at hu
    .rename_i z hz;cases off with
     | zero=>simp[TV.cells] at hz;subst hz;split at hu<;>simp_all
     | succ k=>simp[TV.cells] at hz
    .cases hu
  obtain⟨rfl,rfl⟩:=oL;have hl:=Ow.length _ hO;rw[Ty.cP] at hl;match ce,hl with
  | [v],_ =>
   refine⟨v,[],fp,[],by simp,rfl,hO,λ w' u' y v' iB hp _ qF=>?_⟩;simp only[lf] at hp;have e:=TV.aW hp;subst e;rw[b4i,b4W];exact qF
 | int k =>
  have oL:off=0/\u=⟨.int k,x⟩:=by
   unfold TV.part at hu;split at hu
   .rename_i hb;simp only[b3J] at hb;simp only[b3C] at hu;exact⟨b3G hb.1,hu.symm⟩
   .split at hu
    .rename_i z hz;cases off with
     | zero=>simp[TV.cells] at hz;subst hz;split at hu<;>simp_all
     | succ k=>simp[TV.cells] at hz
    .cases hu
  obtain⟨rfl,rfl⟩:=oL;have hl:=Ow.length _ hO;match ce,hl with
  | [v],_ =>
   refine⟨v,[],fp,[],by simp,rfl,hO,λ w' u' y v' iB hp _ qF=>?_⟩;simp only[lf] at hp;have e:=TV.aW hp;subst e;rw[b4i,b4W];exact qF
 | bool =>
  have oL:off=0/\u=⟨.bool,x⟩:=by
   unfold TV.part at hu;split at hu
   .rename_i hb;simp only[b3J] at hb;simp only[b3C] at hu;exact⟨b3G hb.1,hu.symm⟩
   .split at hu
    .rename_i z hz;cases off with
     | zero=>simp[TV.cells] at hz;subst hz;split at hu<;>simp_all
     | succ k=>simp[TV.cells] at hz
    .cases hu
  obtain⟨rfl,rfl⟩:=oL;have hl:=Ow.length _ hO;match ce,hl with
  | [v],_ =>
   refine⟨v,[],fp,[],by simp,rfl,hO,λ w' u' y v' iB hp _ qF=>?_⟩;simp only[lf] at hp;have e:=TV.aW hp;subst e;rw[b4i,b4W];exact qF
 | str =>
  have oL:off=0/\u=⟨.str,x⟩:=by
   unfold TV.part at hu;split at hu
   .rename_i hb;simp only[b3J] at hb;simp only[b3C] at hu;exact⟨b3G hb.1,hu.symm⟩
   .split at hu
    .rename_i z hz;cases off with
     | zero=>simp[TV.cells] at hz;subst hz;split at hu<;>simp_all
     | succ k=>simp[TV.cells] at hz
    .cases hu
  obtain⟨rfl,rfl⟩:=oL;have hl:=Ow.length _ hO;match ce,hl with
  | [v],_ =>
   refine⟨v,[],fp,[],by simp,rfl,hO,λ w' u' y v' iB hp _ qF=>?_⟩;simp only[lf] at hp;have e:=TV.aW hp;subst e;rw[b4i,b4W];exact qF
theorem a2V(l:List Value)(o n k:Nat)(v:Value)(hk:k<n)(hl:o+n<=l.length):l.take o++((l.drop o).take n).set k v++l.drop (o+n)=l.set (o+k) v:=by
 conv=>rhs;rw[<-b4S o l]
 rw[List.set_append_right _ _ (by simp;omega),b4H];congr 1;have e:o+k - (List.take o l).length=k:=by rw[b4e];omega
 rw[e];conv=>rhs;rw[<-b4S n (l.drop o)]
 rw[List.set_append_left _ _ (by rw[b4e,b4V];omega),b5p]
theorem YH{w:World}{η:Value}{τ LM:Ty}{xs:List τ.den}{fp:List Nat}(hT:il w η τ xs fp)(cU:fp.Nodup){a0:Option Addr}{n cap:Nat}{l:List Value}(eH:η = .tuple (.slice a0 n cap::l).toArray){i off:Nat}(hi:i<n){u:TV}
  (hu:TV.part ⟨τ,xs.getD i τ.zero⟩ off LM=some u) (cv:LM.agg=false) (oL:off<τ.size):n=xs.length /\
  ∃ v f1,l[i * τ.size+off]?=some v/\Ow w u.aQ [v] f1/\f1.Nodup/\(∀ b∈f1,b∈fp)/\∀ (w':World) (u':TV) (y:τ.den) (v':Value) (iB:List Nat),lf τ (xs.getD i τ.zero) off u'=some y->(∀ b∈fp,b∉f1->(a0=some ⟨b,0,none⟩->∃ t,w'.heap[b]?=some (.cells (l.set (i * τ.size+off) v').toArray t (0,0)))/\(a0≠some ⟨b,0,none⟩->w'.heap[b]?=w.heap[b]?))->Ow w' u'.aQ [v'] iB->iB.Nodup->(∀ b∈iB,b∈f1\/b∉fp) ->
   ∃ yZ,il w' (.tuple (.slice a0 n cap::l.set (i * τ.size+off) v').toArray) τ (xs.set i y) yZ/\yZ.Nodup/\∀ b∈yZ,b∈fp\/b∈iB:=by
 obtain⟨v0,l0,a1,ZB,h1,h2,h3,h4,h5,h6⟩:=hT;rw[eH] at h1;simp only[b5k] at h1;have h1:(Value.slice a0 n cap::l)=v0::l0:=congrArg Array.toList h1;simp only[b3O] at h1;obtain⟨hq,I5⟩:=h1;subst I5;rw[h2] at hq;simp only[b5q] at hq;obtain⟨rfl,rfl,rfl⟩:=hq;rcases h6 with ⟨rfl,_,_⟩|⟨b,f,t,rfl,rfl,k1,k0,k2⟩
 .simp at hi
 .have cM:∀ d∈xs.map τ.aQ,d.size=τ.size:=by
   intro d hd;obtain⟨z,_,rfl⟩:=b3N.1 hd;exact Ty.cP τ z
  obtain⟨g0,g1,g2,rfl,hlen,m1,m2⟩:=bR.split (xs.map τ.aQ) i (τ.aQ (xs.getD i τ.zero)) k2 cM (by simp[List.getD,hi]);obtain⟨v,p0,p1,p2,rfl,q1,q2,q3⟩:=Ub hu cv m1;have hvl:l[i * τ.size+off]?=some v:=by
   rw[b5i,b4n oL,b5w] at q1;exact q1
  rw[b4x] at cU;obtain⟨hb,cU⟩:=cU;have TZ:(p0++p1++p2).Nodup:=by
   rw[b4h,b4h] at cU;exact cU.1.2.1
  have hp1:p1.Nodup:=by
   rw[b4h,b4h] at TZ;exact TZ.1.2.1
  refine⟨rfl,v,p1,hvl,q2,hp1,λ b hb=>by simp[hb],λ w' u' y v' iB hp hw qF Ds hs'=>?_⟩;have dis:∀ c∈g0++(p0++p1++p2)++g2,c∉p1->w'.heap[c]?=w.heap[c]?:=λ c hc hn=>(hw c (b5m _ hc) hn).2 λ e=>by
   simp only[b3C,b5E,b3T] at e;subst e;exact hb hc
  have eY:∀ c,c∈p1->c∈p0++p1++p2:=λ c hc=>by simp[hc]
  rw[b4h,b4h] at cU;obtain⟨⟨n1,n2,n3⟩,n4,n5⟩:=cU;have h0:∀ c∈g0++g2,c∉p1:=λ c hc Ux=>by
   rcases b3H.1 hc with hc|hc
   .exact n3 c hc c (eY c Ux) rfl
   .exact n5 c (b3H.2 (.inr (eY c Ux))) c hc rfl
  have h00:∀ c∈p0++p2,c∉p1:=λ c hc Ux=>by
   rw[b4h,b4h] at TZ;rcases b3H.1 hc with hc|hc
   .exact TZ.1.2.2 c hc c Ux rfl
   .exact TZ.2.2 c (by simp[Ux]) c hc rfl
  have hy:=q3 w' u' y v' iB hp (λ c hc=>dis c (by simp at hc ⊢;rcases hc with hc|hc<;>simp[hc]) (h00 c hc)) qF;have eQ:=m2 w' (τ.aQ y) _ (p0++iB++p2) (λ c hc=>dis c (by simp at hc ⊢;rcases hc with hc|hc<;>simp[hc]) (h0 c hc)) (by simp only[List.length_set,List.length_take,List.length_drop];omega) hy;rw[a2V l _ _ _ v' oL hlen,<-List.map_set] at eQ;obtain⟨t',UD⟩:=(hw b (by simp) λ hc=>hb (by simp[hc])).1 rfl;refine⟨b::(g0++(p0++iB++p2)++g2),⟨_,_,_,cap,rfl,by simp,by simpa using h3,h4,by simpa using h5, .inr ⟨b,_,t',rfl,rfl,UD,by rw[List.length_set];exact k0,eQ⟩⟩,?_,?_⟩
  .have hfr:∀ c∈iB,c∈p1\/(c∉p0/\c∉p2):=λ c hc=>(hs' c hc).imp id λ q=>⟨λ q'=>q (by simp[q']),λ q'=>q (by simp[q'])⟩;have vS:∀ c∈p0++iB++p2,c∈p0++p1++p2\/(c∉g0/\c∉g2):=λ c hc=>by
    simp only[b3H] at hc;rcases hc with (hc|hc)|hc
    .exact .inl (by simp[hc])
    .rcases hs' c hc with q|q
     .exact .inl (by simp[q])
     .exact .inr ⟨λ q'=>q (by simp[q']),λ q'=>q (by simp[q'])⟩
    .exact .inl (by simp[hc])
   rw[b4x];refine⟨λ hc=>?_,CY (f1:=p0++p1++p2) (eb (eb n1 n2 λ x hx EP=>n3 x hx x EP rfl) n4 λ x hx EP=>n5 x hx x EP rfl) (CY TZ Ds hfr) vS⟩;simp only[b3H] at hc;rcases hc with (hc|(hc|hc)|hc)|hc
   .exact hb (by simp[hc])
   .exact hb (by simp[hc])
   .rcases hs' b hc with q|q
    .exact hb (by simp[q])
    .exact q (by simp)
   .exact hb (by simp[hc])
   .exact hb (by simp[hc])
  .intro c hc;simp only[b3Z,b3H] at hc;rcases hc with hc|(hc|(hc|hc)|hc)|hc
   .exact .inl (by simp[hc])
   .exact .inl (by simp[hc])
   .exact .inl (by simp[hc])
   .exact .inr hc
   .exact .inl (by simp[hc])
   .exact .inl (by simp[hc])
theorem a0X{lk:Nat->Option aD}{k:Int}{z:Value}(hz:VR c G lk w (.aI ⟨.int .i64,k⟩) z):z = .int .i64 k/\O k:=by
 obtain⟨h1,h2,h3⟩:=hz;simp only[b3O,b3T] at h1;refine⟨h1,?_⟩;simp only[IntKind.min,IntKind.max,IntKind.signed,IntKind.bits,b5y] at h2 h3;constructor<;>omega
theorem XM(hE:bH c.P c.E)(h:Inv c G s a w){o:Oper}{f:FuncId}{m:DX}(hm:c.E.mark f=some m){id i off:Nat}{τ:Ty}{xs:List τ.den}(aX:s.af id=some (.aw τ xs)){u:TV}(hu:TV.part ⟨τ,xs.getD i τ.zero⟩ off m.τ=some u){x:m.τ.den}(hx:u.Z9 m.τ=some x)
  (yL:m.τ.agg=false) (oL:off<τ.size) {k:Int} {y:τ.den} (hy:lf τ (xs.getD i τ.zero) off ⟨m.τ,(m.g x k).2.1⟩=some y) {v z:Value} {d:Nat}
  (hv:VR c G s.af w (.sub id i off τ.size) v) (hz:VR c G s.af w (.aI ⟨.int .i64,k⟩) z) (AD:(m.g x k).1.ok) (hd:o.dst=some d) (cH:jQ c.P f->(execOp a.eval o).run c.P w = .ok (.enter f [v,z].toArray) w) {Q:Exit->Act->World->Prop} :
  o.wp c.P a w (λ a' w'=>∃ G',Inv c G' ((s.bZ.dE id τ (xs.set i y)).put (some d) (.aI ⟨.int .i64,(m.g x k).2.2⟩)) a' w') Q:=by
 obtain⟨od,iW⟩:=hE.mark f _ hm;obtain⟨rfl,a2n⟩:=a0X hz;obtain⟨_,a0,n,cap,l,eH,eY,hl,_⟩:=hv;have hux:=TV.aW hx;subst hux;obtain⟨rfl,v',f1,p1,p2,p3,p4,p5⟩:=YH (h.aP.tr id τ xs aX) (h.aP.nd id τ xs aX) eH eY hu yL oL;rw[hl] at p1;simp only[b3C] at p1;subst p1;have hO:DZ w ⟨m.τ,x⟩ v f1:=by
  obtain⟨LM,g⟩:=m;cases LM with
  | st s=>cases yL
  | _=>exact p2
 unfold Oper.wp;rw[cH od];simp only[Oper.upon];refine (iW x k w v f1 AD a2n (h.a7m λ b hb=>(h.aP.pl id τ xs b aX (p4 b hb)).2.1) hO p3 λ b hb=>(h.aP.pl id τ xs b aX (p4 b hb)).2.2.1).mono ?_;rintro e w' ⟨rfl,W2,hk,iB,qF,TY,vS⟩;have hO2:Ow w' (TV.aQ ⟨m.τ,(m.g x k).2.1⟩) [v] iB:=by
  obtain⟨LM,g⟩:=m;cases LM with
  | st s=>cases yL
  | _=>exact qF
 have AE:l.set (i * τ.size+off) v=l:=by
  apply b6y;intro j;rw[b6z];split
  .rename_i e;subst e;split
   .exact hl.symm
   .rename_i hn;rw[b5H (by omega)]
  .rfl
 obtain⟨yZ,hT,a7z,hs2⟩:=p5 w' ⟨m.τ,(m.g x k).2.1⟩ y v iB hy (λ b hb hn=>by
  have e9:=hk.block b (h.aP.pl id τ xs b aX hb).2.2.1 hn;refine⟨λ ha=>?_,λ _=>e9⟩;rw[e9,AE];obtain⟨v0,l0,a1,ZB,q1,q2,_,_,_,q6⟩:=h.aP.tr id τ xs aX;rw[eH] at q1;simp only[b5k] at q1;have q1:(Value.slice a0 xs.length cap::l)=v0::l0:=congrArg Array.toList q1;simp only[b3O] at q1;obtain⟨r1,r2⟩:=q1;subst r2;rw[q2,ha] at r1;simp only[b5q] at r1;rcases q6 with ⟨_,q7,_⟩|⟨b',f,t,q7,q8,q9,_⟩
  .rw[q7.1] at r1;cases r1.1
  .rw[q7] at r1;have r1:=r1.1;simp only[b3C,b5E,b3T] at r1;subst r1;exact⟨t,q9⟩) hO2 TY (λ b hb=>(vS b hb).imp (λ q=>q) λ q q'=>by have:=(h.aP.pl id τ xs b aX q').2.2.1;omega)
 rw[AE,<-eH] at hT;show ∃ G',Inv c G' ((s.bZ.dE id τ (xs.set i y)).put (some d) (.aI ⟨.int .i64,(m.g x k).2.2⟩)) (a.put o.dst (.int .i64 (m.g x k).2.2)) w';rw[hd];refine h.VT (w':=w') (t:=s.bZ.dE id τ (xs.set i y)) (A:=[(id,(G.η id,yZ, .aw τ (xs.set i y)))]) ?_ ?_ ?_ (by simp) hk (λ b hb=>⟨_,b4m.2 rfl,p4 b hb⟩) rfl (λ i=>?_) (λ G' lk=>Q5 W2)
 .intro p hp;simp only[b4m] at hp;subst hp;exact⟨τ,xs,_,_,l,l,aX,rfl,eH,eH,hT,a7z⟩
 .intro p hp b hb;simp only[b4m] at hp;subst hp;rcases hs2 b hb with q|q
  .exact .inl ⟨_,b4m.2 rfl,q⟩
  .rcases vS b q with q|q
   .exact .inl ⟨_,b4m.2 rfl,p4 b q⟩
   .exact .inr (WN h q.1 q.2)
 .intro p hp q hq b _ _;simp only[b4m] at hp hq;rw[hp,hq]
 .rw[Rk,fI]
theorem OS{lk:Nat->Option aD}:∀ {cs:List AV} {ts:List Ty} {us us':List TV} {ids:List Nat} {l:List Value} {yZ:List Nat},uW lk cs ts=some (us,ids)->aV (C1 c G lk w) cs l->us'.map TV.τ=ts->cZ w' (us'.map TV.aQ) l yZ->yZ.Nodup->ids.Nodup ->
  (∀ id∈ids,cx (lk id)=true)->∃ A:List (Nat×TE),A.map (·.1)=ids/\(∀ p∈A,a1B G lk w' p.1 p.2)/\(∀ p∈A,∀ b∈p.2.2.1,b∈yZ)/\(∀ p∈A,∀ q∈A,∀ b∈p.2.2.1,b∈q.2.2.1->p.1=q.1) /\
   ∀ s:ah,(s.gM cs us').aB=s.aB/\∀ i,(s.gM cs us').af i=Vx A s.af i
 | [],[],us,us',ids,l,yZ,ht,hl,htt,hO,cU,hni,hT=>by
  simp only[uW,b3C,b3F] at ht;obtain⟨rfl,rfl⟩:=ht;exact⟨[],rfl,by simp,by simp,by simp,λ s=>by cases us'<;>exact⟨rfl,λ _=>rfl⟩⟩
 | cc::cs,t::ts,us,us',ids,l,yZ,ht,hl,htt,hO,cU,hni,hT=>by
  simp only[uW] at ht;split at ht;case h_2=>cases ht
  case h_1 x i0 hx =>
  split at ht;case h_2=>cases ht
  case h_1 r j hr =>
  simp only[b3C,b3F] at ht;obtain⟨rfl,rfl⟩:=ht;match us',l,htt,hl,hO with
  | u'::us',v::l,htt,hl,hO =>
  simp only[b4A,b3O] at htt;obtain⟨ht1,ht2⟩:=htt;obtain⟨v1,r1,f1,f2,e1,e2,o1,o2⟩:=hO;simp only[b3O] at e1;obtain⟨rfl,rfl⟩:=e1;subst e2;rw[b4h] at cU hni;obtain⟨nd1,nd2,nd3⟩:=cU;obtain⟨ni1,ni2,ni3⟩:=hni;obtain⟨A,a1,a2,a3,a4,a5⟩:=OS hr hl.2 ht2 o2 nd2 ni2 (λ id aX=>hT id (by simp[aX]));have skip:i0=[]->(∀ s:ah,(s.gM (cc::cs) (u'::us'))=s.gM cs us')->∃ A:List (Nat×TE),A.map (·.1)=i0++j/\(∀ p∈A,a1B G lk w' p.1 p.2)/\(∀ p∈A,∀ b∈p.2.2.1,b∈f1++f2)/\(∀ p∈A,∀ q∈A,∀ b∈p.2.2.1,b∈q.2.2.1->p.1=q.1) /\
   ∀ s:ah,(s.gM (cc::cs) (u'::us')).aB=s.aB/\∀ i,(s.gM (cc::cs) (u'::us')).af i=Vx A s.af i:=λ hi hs =>
   ⟨A,by rw[hi];exact a1,a2,λ p hp b hb=>by simp[a3 p hp b hb],a4,λ s=>by rw[hs];exact a5 s⟩
  cases cc with
  | aI z =>
   simp only[dY] at hx;split at hx
   .simp only[b3C,b3F] at hx;exact skip hx.2.symm λ s=>by obtain⟨bj,y'⟩:=u';cases bj<;>rfl
   .cases hx
  | nil =>
   cases t with
   | slice t' =>
    simp only[dY,b3C,b3F] at hx;exact skip hx.2.symm λ s=>by obtain⟨bj,y'⟩:=u';cases bj<;>rfl
   | _=>cases hx
  | row id =>
   simp only[dY] at hx;split at hx
   .rename_i oK;split at hx
    .simp only[b3C,b3F] at hx;have:=hT id (by rw[<-hx.2];simp);rw[oK] at this;cases this
    .cases hx
   .cases hx
  | aw id =>
   simp only[dY] at hx;split at hx
   .rename_i bj ys oK;split at hx
    .rename_i y' hy';simp only[b3C,b3F] at hx;obtain⟨_,rfl⟩:=hx;have e:=TV.aW hy';have et:Ty.slice bj=t:=congrArg TV.τ e;subst et;obtain⟨Zm,yu⟩:=u';have ht1:Zm=Ty.slice bj:=ht1;subst ht1;obtain⟨_,l0,eH,_⟩:=hl.1;obtain⟨l',hT',_⟩:=il.a1k (τ:=bj) (xs:=yu) o1;refine⟨(id,(.tuple (v::l').toArray,f1, .aw bj yu))::A,by simp[a1],?_,?_,?_,λ s=>?_⟩
     .intro p hp;rcases b3Z.1 hp with rfl|hp
      .exact⟨bj,ys,yu,v,l0,l',oK,rfl,eH,rfl,hT',nd1⟩
      .exact a2 p hp
     .intro p hp b hb;rcases b3Z.1 hp with rfl|hp
      .exact b3H.2 (.inl hb)
      .exact b3H.2 (.inr (a3 p hp b hb))
     .intro p hp q hq b hb cz;rcases b3Z.1 hp with rfl|hp<;>rcases b3Z.1 hq with rfl|hq
      .rfl
      .exact absurd rfl (nd3 b hb b (a3 q hq b cz))
      .exact absurd rfl (nd3 b cz b (a3 p hp b hb))
      .exact a4 p hp q hq b hb cz
     .obtain⟨q1,q2⟩:=a5 (s.dE id bj yu);refine⟨q1,λ i=>?_⟩;have lA:(s.gM (.aw id::cs) (⟨.slice bj,yu⟩::us')).af i=Vx A (s.dE id bj yu).af i:=q2 i;rw[lA];have ie:∀ e,af A id=some e->False:=λ e he=>by
       have:id∈A.map (·.1):=b3N.2 ⟨_,fc he,rfl⟩;rw[a1] at this;exact ni3 id (by simp) id this rfl
      unfold Vx;simp only[af];by_cases hi:i=id
      .subst hi;cases hA:af A i with
       | none=>simp[fI]
       | some e=>exact (ie e hA).elim
      .have:Nat.beq id i=false:=by
        cases hb:Nat.beq id i with
        | false=>rfl
        | true=>exact absurd (b3G hb).symm hi
       simp only[this];cases af A i with
       | none=>simp[fI,hi]
       | some e=>rfl
    .cases hx
   .cases hx
  | _=>cases hx
 | [],_::_,_,_,_,_,_,ht,_,_,_,_,_,_=>by cases ht
 | _::_,[],_,_,_,_,_,ht,_,_,_,_,_,_=>by cases ht
theorem XK(hE:bH c.P c.E)(h:Inv c G s a w){o:Oper}{f:FuncId}{m:DX}(hm:c.E.mark f=some m){cs:List AV}{x:m.τ.den}{ids:List Nat}(ht:sA s.af m.τ (.agg cs)=some (x,ids))(cU:ids.Nodup)(hT:∀ id∈ids,cx (s.af id)=true)
  {k:Int} {v z:Value} {d:Nat} (hv:VR c G s.af w (.agg cs) v) (hz:VR c G s.af w (.aI ⟨.int .i64,k⟩) z) (AD:(m.g x k).1.ok) (hd:o.dst=some d) (cH:jQ c.P f->(execOp a.eval o).run c.P w = .ok (.enter f [v,z].toArray) w) {Q:Exit->Act->World->Prop} :
  o.wp c.P a w (λ a' w'=>∃ G',Inv c G' ((s.bZ.gM cs (TV.cells ⟨m.τ,(m.g x k).2.1⟩)).put (some d) (.aI ⟨.int .i64,(m.g x k).2.2⟩)) a' w') Q:=by
 obtain⟨od,iW⟩:=hE.mark f _ hm;obtain⟨rfl,a2n⟩:=a0X hz;obtain⟨fp,hO,TZ,pE⟩:=mZ h ht hv cU;have bN:∀ b∈fp,b<w.heap.size:=λ b hb=>by
  obtain⟨id,hi,hq⟩:=pE b hb;rcases hq with ⟨τ,xs,q1,q2⟩|⟨e,τ,xs,q1,q2⟩
  .exact (h.aP.pl id τ xs b q1 q2).2.2.1
  .exact (h.place id _ b q1 q2).2.2
 have R6:∀ b,yS G s.af ids b->∃ id∈ids,b∈G.φ id:=λ b hb=>by
  obtain⟨id,hi,hq⟩:=hb;rcases hq with ⟨τ,xs,q1,q2⟩|⟨e,τ,xs,q1,q2⟩
  .exact⟨id,hi,q2⟩
  .have:=hT id hi;rw[q1] at this;cases this
 unfold Oper.wp;rw[cH od];simp only[Oper.upon];refine (iW x k w v fp AD a2n (h.a7m λ b hb=>by
  obtain⟨id,hi,hq⟩:=pE b hb;rcases hq with ⟨τ,xs,q1,q2⟩|⟨e,τ,xs,q1,q2⟩
  .exact (h.aP.pl id τ xs b q1 q2).2.1
  .exact (h.place id _ b q1 q2).2.1) hO TZ bN).mono ?_
 rintro e w' ⟨rfl,W2,hk,yZ,qF,TY,vS⟩;show ∃ G',Inv c G' ((s.bZ.gM cs (TV.cells ⟨m.τ,(m.g x k).2.1⟩)).put (some d) (.aI ⟨.int .i64,(m.g x k).2.2⟩)) (a.put o.dst (.int .i64 (m.g x k).2.2)) w';rw[hd];obtain⟨LM,g⟩:=m;cases LM with
 | st st =>
  simp only[sA] at ht;split at ht;case h_2=>cases ht
  case h_1 us i0 kr =>
  split at ht;case h_2=>cases ht
  case h_1 y0 hy0 =>
  simp only[b3C,b3F] at ht;obtain⟨rfl,rfl⟩:=ht;obtain⟨l,rfl,hl⟩:=hv;obtain⟨l2,hl2,qF⟩:=qF;simp only[Value.agg.injEq] at hl2;have hl2:l=l2:=congrArg Array.toList hl2;subst hl2;rw[show ((⟨.st st,g⟩:DX).g y0 k).2.1=(g y0 k).2.1 from rfl,aS.cA] at qF;obtain⟨A,a1,a2,a3,a4,a5⟩:=OS (us':=st.cells (g y0 k).2.1) kr hl (aS.sQ st _) qF TY cU hT;obtain⟨q1,q2⟩:=a5 s.bZ;have a9Y:∀ id∈i0,∃ p∈A,p.1=id:=λ id aX=>by
   rw[<-a1] at aX;obtain⟨p,hp,rfl⟩:=b3N.1 aX;exact⟨p,hp,rfl⟩
  refine h.VT (w':=w') (t:=s.bZ.gM cs (st.cells (g y0 k).2.1)) (A:=A) a2 ?_ a4 (by rw[a1];exact cU) hk ?_ q1 q2 (λ G' lk=>Q5 W2)
  .intro p hp b hb;rcases vS b (a3 p hp b hb) with q|q
   .obtain⟨id,hi,rh⟩:=R6 b (pE b q);obtain⟨q,hq,rfl⟩:=a9Y id hi;exact .inl ⟨q,hq,rh⟩
   .exact .inr (WN h q.1 q.2)
  .intro b hb;obtain⟨id,hi,rh⟩:=R6 b (pE b hb);obtain⟨q,hq,rfl⟩:=a9Y id hi;exact⟨q,hq,rh⟩
 | _=>cases ht
end
section
variable {c:Ctx} {G:Gh} {s:ah} {a:Act} {w w':World}
theorem JR(h:Inv c G s a w){o:Oper}{v:AV}{x:Value}{Q:Exit->Act->World->Prop}(hr:(execOp a.eval o).run c.P w = .ok (.value x) w)(hv:VR c G s.af w v x) :
  o.wp c.P a w (λ a' w'=>∃ G',Inv c G' (s.put o.dst v) a' w') Q:=by
 unfold Oper.wp;rw[hr];exact⟨G,Inv.put h hv⟩
theorem Fo{η:Value}{τ:Ty}{xs:List τ.den}{fp:List Nat}(hT:il w η τ xs fp){a0:Option Addr}{n cap:Nat}{l:List Value}(eH:η = .tuple (.slice a0 n cap::l).toArray){i:Nat}(hi:i<n) :
  n=xs.length/\∃ b f t,a0=some ⟨b,0,none⟩/\fp=b::f/\w.heap[b]?=some (.cells l.toArray t (0,0))/\bR w (xs.map τ.aQ) l f:=by
 obtain⟨v0,l0,a1,ZB,h1,h2,h3,h4,h5,h6⟩:=hT;rw[eH] at h1;simp only[b5k] at h1;have h1:(Value.slice a0 n cap::l)=v0::l0:=congrArg Array.toList h1;simp only[b3O] at h1;obtain⟨hq,I5⟩:=h1;subst I5;rw[h2] at hq;simp only[b5q] at hq;obtain⟨rfl,rfl,rfl⟩:=hq;rcases h6 with ⟨rfl,_,_⟩|⟨b,f,t,q1,q2,q3,q4⟩
 .simp at hi
 .exact⟨rfl,b,f,t,q1,q2,q3,q4.2⟩
theorem Rr{t:Ty}{x:Value}(h:C1 c G s.af w (zeroCell t) x)(ht:t.agg=false):Ow w (t.aQ t.zero) [x] []:=by
 cases t with
 | slice t' =>
  have h:x = .slice none 0 0:=h;subst h;exact⟨none,0,rfl,b4r _,by simp[maxLen],b4O _, .inl ⟨rfl,⟨rfl,rfl⟩,rfl⟩⟩
 | st s=>cases ht
 | mv t=>exact Ow.eo (S:=G.S) _ rfl h.2
 | ptr=>exact Ow.eo (S:=G.S) _ rfl h.2
 | int k=>exact Ow.eo (S:=G.S) _ rfl h.2
 | bool=>exact Ow.eo (S:=G.S) _ rfl h.2
 | str=>exact Ow.eo (S:=G.S) _ rfl h.2
theorem a5J(s:aS):∀ t∈s.zT,t.agg=false:=λ t ht=>by
 rw[<-aS.sQ s s.zero] at ht;obtain⟨u,hu,rfl⟩:=b3N.1 ht;exact Mt s _ u hu
theorem a8G{c:Ctx}{G:Gh}{s:ah}{τ:Ty}{z:Value}(h:C7 τ z=true):Ow w (τ.aQ τ.zero) z.cells.toList []:=by
 have h1:=lh (c:=c) (G:=G) (lk:=s.af) (w:=w) h;cases τ with
 | st st =>
  simp only[zeroCells] at h1;show Ow w (st.aQ st.zero) _ [];rw[aS.cA];have hz:(st.cells st.zero).map TV.aQ=st.zT.map λ t=>t.aQ t.zero:=by cases st<;>rfl
  rw[hz];have h2:=aV.of_map _ h1;have:∀ (ts:List Ty) (vs:List Value),aV (λ t x=>Ow w (t.aQ t.zero) [x] []) ts vs->cZ w (ts.map λ t=>t.aQ t.zero) vs []:=by
   intro ts;induction ts with
   | nil=>intro vs h;cases vs<;>first|exact⟨rfl,rfl⟩|cases h
   | cons t ts ih =>
    intro vs h;cases vs with
    | nil=>cases h
    | cons v vs=>exact⟨v,vs,[],[],rfl,rfl,h.1,ih vs h.2⟩
  exact this _ _ (h2.imp λ t x ht hx=>Rr hx (a5J st t ht))
 | _ =>
  simp only[zeroCells] at h1;match hc:z.cells.toList,h1 with
  | [x],h1=>exact Rr h1.1 rfl
theorem bR.a1D:∀ (ds:List D) {es:List D} {l m:List Value} {n:Nat},bR w ds l []->(∀ d∈ds,d.size=n)->l.length=ds.length * n->bR w es m []->bR w (ds++es) (l++m) []
 | [],es,l,m,n,_,_,hl,h=>by
  have:l=[]:=List.eq_nil_of_length_eq_zero (by simpa using hl);subst this;simpa using h
 | d::ds,es,l,m,n,h,hn,hl,h'=>by
  obtain⟨cc,r,f1,f2,rfl,hf,h3,h4⟩:=h;have hf:=(List.append_eq_nil_iff.1 hf.symm);obtain⟨rfl,rfl⟩:=hf;have hc:cc.length=n:=by rw[Ow.length _ h3];exact hn d (by simp)
  refine⟨cc,r++m,[],[],by simp,rfl,h3,bR.a1D ds h4 (λ d hd=>hn d (by simp[hd])) ?_ h'⟩;simp only[b3U,b3P,b4X,Nat.one_mul] at hl;omega
theorem bR.more:∀ (ds:List D) {l:List Value} {fp:List Nat} (m:List Value),bR w ds l fp->bR w ds (l++m) fp
 | [],_,_,_,h=>h
 | d::ds,_,_,m,h=>by
  obtain⟨cc,r,f1,f2,rfl,hf,h3,h4⟩:=h;exact⟨cc,r++m,f1,f2,by simp,hf,h3,bR.more ds m h4⟩
theorem Mc{d:D}{z:Array Value}(h:Ow w d z.toList []):∀ k:Nat,bR w (List.replicate k d) (madeCells z (k * z.size)).toList []
 | 0=>rfl
 | k+1=>by
  have hz:d.size=z.size:=by have:=Ow.length _ h;simpa using this.symm
  rw[Hm,b6j];refine bR.a1D (n:=z.size) _ (Mc h k) (λ e he=>by rw[List.eq_of_mem_replicate he];exact hz) (by simp[madeCells]) ⟨z.toList,[],[],[],by simp,rfl,h,rfl⟩
theorem RW(h:Inv c G s a w)(id:Nat):Inv c G (s.gone id) a w:=by
 obtain⟨h1,_,_⟩:=h.clear id;have cF:(s.gone id).af=λ i=>if i=id then none else (s.cp id).af i:=by
  funext i;exact eC id _ i
 unfold Inv;show bw c G (s.cp id).sl (s.cp id).aB.length (s.gone id).af a w;rw[cF,show (s.cp id).aB.length=s.aB.length from by simp[ah.cp]];exact h1
theorem Gq(s:ah)(id i:Nat):(s.gone id).af i=if i=id then none else (s.af i).map (aD.kill id):=by
 show af (bS id (s.cp id).aN) i=_;rw[eC,<-congrFun (ef s id) i];rfl
theorem Ar:∀ (ids:List Nat) {s:ah},Inv c G s a w->Inv c G (ids.foldl ah.gone s) a w
 | [],_,h=>h
 | id::r,_,h=>Ar r (RW h id)
theorem a3U(id:Nat){τ:Ty}{xs:List τ.den}{o:Option aD}(h:o=some (.aw τ xs)):o.map (aD.kill id)=some (.aw τ xs):=by subst h;rfl
theorem TU:∀ (ids:List Nat) {s:ah} {id:Nat} {τ:Ty} {xs:List τ.den},s.af id=some (.aw τ xs)->id∉ids->(ids.foldl ah.gone s).af id=some (.aw τ xs)
 | [],_,_,_,_,h,_=>h
 | i::r,s,id,τ,xs,h,hn=>by
  refine TU r ?_ (λ hh=>hn (by simp[hh]));rw[Gq,b3R (λ e=>hn (by simp[e]))];exact a3U i h
theorem M6:∀ (ids:List Nat) {s:ah} {i:Nat} {o:aD},(ids.foldl ah.gone s).af i=some o->i∉ids/\∃ o',s.af i=some o'/\∀ τ xs,o = .aw τ xs->o' = .aw τ xs
 | [],s,i,o,h=>⟨by simp,o,h,λ _ _ e=>e⟩
 | id::r,s,i,o,h=>by
  obtain⟨h1,o',h2,h3⟩:=M6 r h;rw[Gq] at h2;split at h2
  .cases h2
  .rename_i eZ;simp only[b4D] at h2;obtain⟨p,hp,hk⟩:=h2;refine⟨by simp[eZ,h1],p,hp,λ τ xs e=>?_⟩;have:=h3 τ xs e;subst this;have hm:(some p).map (aD.kill id)=some (.aw τ xs):=by rw[<-hk];rfl
   have:=jE hm;simpa using this
theorem JW{o:Oper}{T:TypeId}{ad x:Operand}(bB:o.op = .store T ad x){w':World}{s':ah}{G':Gh}(hr:(Instr.storeAt T (a.eval ad) (a.eval x)).run c.P w = .ok () w')(hI:Inv c G' (s'.put none .any) a w'){Q:Exit->Act->World->Prop} :
  o.wp c.P a w (λ a' w'=>∃ G',Inv c G' (s'.put o.dst .any) a' w') Q:=by
 unfold Oper.wp;have:(execOp a.eval o).run c.P w = .ok .skip w':=by simp only[execOp,bB,Sem.run_bind,hr,Result.andThen_ok,Sem.run_pure]
 rw[this];exact⟨G',Inv.put (s:=s') hI trivial⟩
theorem Yy(hE:bH c.P c.E)(h:Inv c G s a w){T:TypeId}{τ bj:Ty}{bt e:Nat}(hT:af c.E.ty T=some (τ,bt,e)){id i off:Nat}{xs:List bj.den}(aX:s.af id=some (.aw bj xs)){p x:Value}(hp:VR c G s.af w (.eU id i off bj.size) p)(oL:off+τ.size<=bj.size)
  (xp:x.cells.toList.length=τ.size) (I4:∀ u∈x.cells.toList,u.oneCell'=true) {y:bj.den}
  (hO:∀ (b:Nat) (f:List Nat) (l:List Value) (w':World),G.φ id=b::f->l.length>=i * bj.size+bj.size->bR w (xs.map bj.aQ) l f->(∀ k,k≠b->w'.heap[k]?=w.heap[k]?) ->
   ∃ f',bR w' ((xs.set i y).map bj.aQ) (l.take (i * bj.size+off)++x.cells.toList++l.drop (i * bj.size+off+τ.size)) f'/\f'.Nodup/\b∉f'/\∀ k∈f',k∈f\/yR c G s.af w k) :
  ∃ w' G',(Instr.storeAt T p x).run c.P w = .ok () w'/\Inv c G' (s.bZ.dE id bj (xs.set i y)) a w':=by
 obtain⟨_,b,n,cap,l,eH,hi,rfl⟩:=hp;obtain⟨rfl,b',f,t,e1,pE,hh,eQ⟩:=Fo (h.aP.tr id bj xs aX) eH hi;simp only[b3C,b5E,b3T] at e1;subst e1;have cM:∀ d∈xs.map bj.aQ,d.size=bj.size:=by
  intro d hd;obtain⟨z,_,rfl⟩:=b3N.1 hd;exact Ty.cP bj z
 obtain⟨_,_,_,_,hlen,_,_⟩:=bR.split (xs.map bj.aQ) i (bj.aQ (xs.getD i bj.zero)) eQ cM (by simp[List.getD,hi]);have cH:=zj (c:=c) (l:=l) hE hT (o:=i * bj.size+off) (x:=x) hh xp I4 (by omega);have EN:∀ k,k≠b->(w.setRow b (l.take (i * bj.size+off)++x.cells.toList++l.drop (i * bj.size+off+τ.size)).toArray).heap[k]?=w.heap[k]?:=λ k hk=>nz w hh k hk;obtain⟨f',k1,k2,k3,k4⟩:=hO b f l _ pE hlen eQ EN;have sN:=b7E w b l.toArray (l.take (i * bj.size+off)++x.cells.toList++l.drop (i * bj.size+off+τ.size)).toArray t (0,0) hh;have hT':il (w.setRow b (l.take (i * bj.size+off)++x.cells.toList++l.drop (i * bj.size+off+τ.size)).toArray) (.tuple (.slice (some ⟨b,0,none⟩) xs.length cap::(l.take (i * bj.size+off)++x.cells.toList++l.drop (i * bj.size+off+τ.size))).toArray) bj (xs.set i y) (b::f'):=by
  obtain⟨v0,l0,a1,ZB,h1,h2,h3,h4,h5,h6⟩:=h.aP.tr id bj xs aX;rw[eH] at h1;simp only[b5k] at h1;have h1:(Value.slice (some ⟨b,0,none⟩) xs.length cap::l)=v0::l0:=congrArg Array.toList h1;simp only[b3O] at h1;obtain⟨hq,I5⟩:=h1;rw[h2] at hq;simp only[b5q] at hq;obtain⟨rfl,_,rfl⟩:=hq;have L5:l.length=cap * bj.size:=by
   rw[I5];rcases h6 with ⟨_,h',_⟩|⟨_,_,_,_,_,_,k0,_⟩
   .cases h'.1
   .exact k0
  exact⟨_,_,_,cap,rfl,by simp,by simpa using h3,h4,by simpa using h5, .inr ⟨b,f',t,rfl,rfl,sN,by rw[<-L5];simp only[List.length_append,List.length_take,List.length_drop,xp];omega,k1⟩⟩
 have hpl:=h.aP.pl id bj xs;have:=h.VT (w':=w.setRow b (l.take (i * bj.size+off)++x.cells.toList++l.drop (i * bj.size+off+τ.size)).toArray) (t:=s.bZ.dE id bj (xs.set i y)) (F:=λ k=>k=b)
  (A:=[(id,(.tuple (.slice (some ⟨b,0,none⟩) xs.length cap::(l.take (i * bj.size+off)++x.cells.toList++l.drop (i * bj.size+off+τ.size))).toArray,b::f', .aw bj (xs.set i y)))]) ?_ ?_ ?_ (by simp)
  ⟨rfl,rfl,rfl,by simp[World.setRow],λ k hk eZ=>EN k eZ⟩ (λ k hk=>⟨_,b4m.2 rfl,by rw[pE,hk];simp⟩) rfl (λ j=>?_) (d:=none) (v := .any) (x:=undef) (λ _ _=>trivial)
 .obtain⟨G',hG⟩:=this;exact⟨_,G',cH,hG⟩
 .intro p hp;simp only[b4m] at hp;subst hp;exact⟨bj,xs,_,_,l,_,aX,rfl,eH,rfl,hT',b4x.2 ⟨k3,k2⟩⟩
 .intro p hp k hk;simp only[b4m] at hp;subst hp;rcases b3Z.1 hk with rfl|hk
  .exact .inl ⟨_,b4m.2 rfl,by rw[pE];simp⟩
  .rcases k4 k hk with hk|hk
   .exact .inl ⟨_,b4m.2 rfl,by rw[pE];simp[hk]⟩
   .exact .inr (hk.grow (by simp[World.setRow]))
 .intro p hp q hq k _ _;simp only[b4m] at hp hq;rw[hp,hq]
 .rw[Rk,fI]
theorem DZ.cells{w:World}{τ:Ty}{y:τ.den}{x:Value}{fp:List Nat}(h:DZ w ⟨τ,y⟩ x fp):Ow w (τ.aQ y) x.cells.toList fp:=by
 cases τ with
 | st s =>
  obtain⟨cs,rfl,h⟩:=h;exact h
 | slice t =>
  obtain⟨a',cap,h1,_⟩:=id h;simp only[b3O,b3T] at h1;subst h1;exact h
 | mv t =>
  have h1:=Ow.length _ (show Ow w (mvD t.size t.aQ y) [x] fp from h);cases hy:(show Option (List t.den) from y) with
  | none =>
   have e:y=(none:Option (List t.den)):=hy;subst e;obtain⟨⟨a',n,m,h1⟩,_⟩:=id h;simp only[b3O,b3T] at h1;subst h1;exact h
  | some l =>
   have e:y=(some l:Option (List t.den)):=hy;subst e;obtain⟨a',cap,h1,_⟩:=id h;simp only[b3O,b3T] at h1;subst h1;exact h
 | ptr=>obtain⟨⟨p,h1⟩,_⟩:=id h;simp only[b3O,b3T] at h1;subst h1;exact h
 | int k=>obtain⟨⟨h1,_⟩,_⟩:=id h;simp only[b3O,b3T] at h1;subst h1;exact h
 | bool=>have h1:=h.1;simp only[b3O,b3T] at h1;subst h1;exact h
 | str=>obtain⟨⟨z,h1,_⟩,_⟩:=id h;simp only[b3O,b3T] at h1;subst h1;exact h
theorem Yr(l:List Value)(k:Nat)(v:Value)(h:k<l.length):l.take k++[v]++l.drop (k+1)=l.set k v:=by
 rw[List.set_eq_take_append_cons_drop,b4n h,b4H];rfl
theorem PG(h:Inv c G s a w){ids:List Nat}{b:Nat}(hb:yS G s.af ids b):yR c G (ids.foldl ah.gone s).af w b:=by
 obtain⟨id,hi,hq⟩:=hb;have hp:(c.w0.heap.size<=b\/c.X b)/\¬ G.S b/\b<w.heap.size:=by
  rcases hq with ⟨τ,xs,q1,q2⟩|⟨e,τ,xs,q1,q2⟩
  .obtain⟨p1,p2,p3,_⟩:=h.aP.pl id τ xs b q1 q2;exact⟨p1,p2,p3⟩
  .obtain⟨p1,p2,p3⟩:=h.place id _ b q1 q2;exact⟨p1,p2,p3⟩
 refine⟨hp.1,hp.2.1,hp.2.2,λ i o cE rh=>?_,λ j τ xs hj oa=>?_⟩
 .obtain⟨h1,o',h2,_⟩:=M6 ids cE;rcases hq with ⟨τ,xs,q1,q2⟩|⟨e,τ,xs,q1,q2⟩
  .exact (h.aP.pl id τ xs b q1 q2).2.2.2 i o' h2 rh
  .have:=h.apart i id o' _ b h2 q1 rh q2;subst this;exact h1 hi
 .obtain⟨h1,o',h2,h3⟩:=M6 ids hj;have:=h3 τ xs rfl;subst this;rcases hq with ⟨bj,cV,q1,q2⟩|⟨e,bj,cV,q1,q2⟩
  .have:=h.aP.ap j id _ _ _ _ b h2 q1 oa q2;subst this;exact h1 hi
  .exact (h.aP.pl j τ xs b h2 oa).2.2.2 id _ q1 q2
theorem VA{l:List Operand}{u v:AV}(h:Inv c G s a w)(hl:l.map s.eval=[u,v]):∃ x y,l.map a.eval=[x,y]/\VR c G s.af w u x/\VR c G s.af w v y:=by
 have:=aV.pj (bx h) l;rw[hl] at this;match hx:l.map a.eval,this with
 | [x,y],hh=>exact⟨x,y,rfl,hh.1,hh.2.1⟩
theorem a4m(hE:bH c.P c.E)(h:Inv c G s a w){o:Oper}{vc:Vc}{s':ah}(hq:oop c.E s o=some (vc,s'))(ep:vc.ok){Q:Exit->Act->World->Prop} :
  o.wp c.P a w (λ a' w'=>∃ G',Inv c G' s' a' w') Q:=by
 unfold oop at hq;split at hq;case h_1 T x ix bB =>
  split at hq;case h_2=>cases hq
  case h_1 τ r hT =>
  split at hq;case h_2=>cases hq
  case h_1 k i id hi hx =>
  split at hq;case h_2=>cases hq
  case h_1 bj xs aX =>
  split at hq;case h_2=>cases hq
  case h_1 jx =>
  have cM:bj.size=τ.size:=by
   simp only[b5s] at jx;rcases jx with jx|jx
   .rw[b4u jx]
   .unfold Ty.b0g at jx;split at jx
    .rename_i p q;have e:=congrArg List.length (b4u jx);rw[b3Y] at e;have e1:=congrArg List.length (aS.sQ p p.zero);have e2:=congrArg List.length (aS.sQ q q.zero);rw[b3Y,aS.iT] at e1 e2;simp only[Ty.size];omega
    .cases jx
  simp only[b3C,b3F] at hq;obtain⟨rfl,rfl⟩:=hq;have xn:=bx h ix;rw[hi] at xn;obtain⟨xn,_⟩:=xn;simp only[b3O,b3T] at xn;have hv:=bx h x;rw[hx] at hv;obtain⟨hit,l,eH,ad,m,cap,Lf⟩:=hv;obtain⟨h0,h1⟩:=ep;have hTr:=h.aP.tr id bj xs aX;rw[Lf] at eH;have hm:m=xs.length:=by
   obtain⟨v0,l0,a1,ZB,q1,q2,_⟩:=hTr;rw[eH] at q1;simp only[b5k] at q1;have q1:(Value.slice ad m cap::l)=v0::l0:=congrArg Array.toList q1;simp only[b3O] at q1;rw[q2] at q1;simp only[b5q] at q1;exact q1.1.2.1
  subst hm;obtain⟨_,b,f,t,e1,_⟩:=Fo hTr eH (i:=i.toNat) (by omega);subst e1;refine JR h (x := .pointer (some ⟨b,0+i.toNat * τ.size,none⟩)) ?_ ⟨hit,b,_,cap,l,eH,by omega,by simp⟩;simp only[execOp,bB,Lf,xn,b4q,sx hE hT h0 h1,b4g,b4s]
 case h_2 T x i bB =>
  split at hq;case h_2=>cases hq
  case h_1 st r hT =>
  split at hq;case h_2=>cases hq
  case h_1 id k off sz hx =>
  split at hq;case h_2=>cases hq
  case h_1 bN =>
  simp only[Option.some.injEq,Prod.mk.injEq] at hq;obtain⟨rfl,rfl⟩:=hq;have bN:i<st.fU.length:=by simpa [Nat.blt_eq] using bN
  have hv:=bx h x;rw[hx] at hv;obtain⟨h1,b,m,cap,l,h2,h3,h4⟩:=hv;refine JR h (x := .pointer (some ⟨b,k * sz+(off+st.fA i),none⟩)) ?_ ⟨h1,b,m,cap,l,h2,h3,rfl⟩;simp only[execOp,bB,h4,b4q,kQ hE hT bN,b4g,b4s,b6A]
 case h_3 T ad bB =>
  split at hq;case h_2=>cases hq
  case h_1 τ r hT =>
  split at hq;case h_2=>cases hq
  case h_1 id i off sz hx =>
  split at hq;case h_2=>cases hq
  case h_1 bj xs aX =>
  split at hq;case h_2=>cases hq
  case h_1 u hu hb =>
  simp only[Bool.and_eq_true,Bool.not_eq_true'] at hb;obtain⟨F3,Nx,WX⟩:=hb;have F3:=Nat.eq_of_beq_eq_true F3;subst F3;have WX:off<bj.size:=by simpa [Nat.blt_eq] using WX
  have hv:=bx h ad;rw[hx] at hv;obtain⟨h1,b,m,cap,l,h2,h3,h4⟩:=hv;obtain⟨rfl,v,f1,p1,p2,_⟩:=YH (h.aP.tr id bj xs aX) (h.aP.nd id bj xs aX) h2 h3 hu Nx WX;obtain⟨_,b',f,t,e1,_,hh,_⟩:=Fo (h.aP.tr id bj xs aX) h2 h3;simp only[b3C,b5E,b3T] at e1;subst e1;have xl:ct w b (i * bj.size+off) [v]:=λ j z hj=>by
   cases j with
   | zero =>
    simp at hj;subst hj;simp[World.cell?,hh,p1]
   | succ j=>simp at hj
  have hs1:τ.size=1:=Ty.jN Nx;have cH:(execOp a.eval o).run c.P w = .ok (.value (Lr τ [v])) w:=by
   simp only[execOp,bB,h4,b4q,mY hE hT xl (by rw[hs1];rfl),b4g,b4s]
  have hmk:Lr τ [v]=v:=by cases τ<;>first|rfl|cases Nx
  rw[hmk] at cH;have hut:u.τ=τ:=by
   unfold TV.part at hu;split at hu
   .rename_i iD;simp only[b3J] at iD;simp only[b3C] at hu;rw[<-hu];exact b4u iD.2
   .split at hu
    .split at hu
     .rename_i hd;simp only[b3C] at hu;rw[<-hu];exact b4u hd
     .cases hu
    .cases hu
  split at hq;case h_1 Ga =>
   simp only[b3C,b3F] at hq;obtain⟨rfl,rfl⟩:=hq;refine JR h cH ?_;obtain⟨Zm,yu⟩:=u;have hut:Zm=τ:=hut;subst hut;have hl:(Ty.aQ Zm yu).light=true:=wz Ga yu;have hr:Rd w G.S (Ty.aQ Zm yu) [v]:=by
    cases Zm with
    | int k=>exact p2.1
    | bool=>exact p2.1
    | str=>exact p2.1
    | slice t=>cases Ga
    | mv t=>cases Ga
    | ptr=>exact p2.1
    | st s=>cases Ga
   cases Zm with
   | mv t=>cases Ga
   | st s=>cases Ga
   | slice t=>cases Ga
   | _=>exact hr
  case h_2 Ga =>
   simp only[b3C,b3F] at hq;obtain⟨rfl,rfl⟩:=hq;refine JR h cH ⟨h1,_,_,cap,l,h2,h3,p1,?_⟩;obtain⟨Zm,yu⟩:=u;have hut:Zm=τ:=hut;subst hut;cases Zm with
   | slice t =>
    obtain⟨a',ZA,q,_⟩:=p2;simp only[b3O,b3T] at q;exact⟨_,_,_,q⟩
   | st s=>cases Nx
   | mv t =>
    cases hy:(show Option (List t.den) from yu) with
    | none =>
     have e:yu=(none:Option (List t.den)):=hy;subst e;obtain⟨⟨a',n,m,q⟩,_⟩:=p2;simp only[b3O,b3T] at q;exact⟨_,_,_,q⟩
    | some l =>
     have e:yu=(some l:Option (List t.den)):=hy;subst e;obtain⟨a',ZA,q,_⟩:=p2;simp only[b3O,b3T] at q;exact⟨_,_,_,q⟩
   | int k=>cases Ga
   | bool=>cases Ga
   | str=>cases Ga
   | ptr=>cases Ga
 case h_4 T ad x bB =>
  split at hq;case h_2=>cases hq
  case h_1 τ r hT =>
  split at hq;case h_2=>cases hq
  case h_1 id i off sz hx =>
  split at hq;case h_2=>cases hq
  case h_1 bj xs aX =>
  split at hq;case h_2=>cases hq
  case h_1 hb =>
  simp only[Bool.and_eq_true] at hb;obtain⟨F3,WX⟩:=hb;have F3:=Nat.eq_of_beq_eq_true F3;subst F3;have WX:off<bj.size:=by simpa [Nat.blt_eq] using WX
  have hp:=bx h ad;rw[hx] at hp;have hxv:=bx h x;have eY:i<xs.length:=by
   obtain⟨_,b,m,cap,l,h2,h3,_⟩:=hp;obtain⟨h4,_⟩:=Fo (h.aP.tr id bj xs aX) h2 h3;omega
  split at hq;case h_1 Ga =>
   split at hq;case h_2=>cases hq
   case h_1 u j hu =>
   split at hq;case h_2=>cases hq
   case h_1 u0 y hu0 hy =>
   simp only[b3C,b3F] at hq;obtain⟨rfl,rfl⟩:=hq;have yL:τ.agg=false:=by cases τ<;>first|rfl|cases Ga
   have hs1:τ.size=1:=Ty.jN yL;have xl:(a.eval x).cells.toList=[a.eval x]/\(a.eval x).oneCell'=true/\Ow w (τ.aQ u) [a.eval x] []:=by
    have hc:C1 c G s.af w (s.eval x) (a.eval x)/\(s.eval x).cell=true:=by
     have hcc:(s.eval x).cell=true:=by
      revert hu;cases cW:s.eval x with
      | aI v =>
       intro hu;simp only[dY] at hu;split at hu
       .rename_i hy';have e:=TV.aW hy';subst e;cases τ<;>first|rfl|cases yL
       .cases hu
      | nil=>intro hu;cases τ<;>first|(cases Ga;done)|(cases hu;done)
      | aw id=>intro hu;simp[dY] at hu
      | row id=>intro hu;simp[dY] at hu
      | _=>intro hu;cases hu
     exact⟨hxv.a0t hcc,hcc⟩
    obtain⟨q1,q2⟩:=hc.1.leaf hc.2;refine⟨by rw[q2],q1,?_⟩;revert hu;have R0:=hc.1;revert R0;cases s.eval x with
    | aI v =>
     intro R0 hu;simp only[dY] at hu;split at hu
     .rename_i b2z hy';have e:=TV.aW hy';subst e;simp only[b3C,b3F] at hu;rw[<-hu.1];exact Ow.eo (S:=G.S) _ (wz b2z _) R0.2
     .cases hu
    | nil=>intro _ hu;cases τ<;>first|(cases Ga;done)|(cases hu;done)
    | aw id=>intro _ hu;simp[dY] at hu
    | row id=>intro _ hu;simp[dY] at hu
    | _=>intro _ hu;cases hu
   obtain⟨c1,c2,c3⟩:=xl;obtain⟨w',G',k1,k2⟩:=Yy hE h hT aX hp (y:=y) (x:=a.eval x) (by omega) (by rw[c1,hs1];rfl) (by rw[c1];simpa using c2) (λ b f l w' R6 hlen eQ EN=>by
    have cM:∀ d∈xs.map bj.aQ,d.size=bj.size:=by
     intro d hd;obtain⟨z,_,rfl⟩:=b3N.1 hd;exact Ty.cP bj z
    have cU:=h.aP.nd id bj xs aX;rw[R6,b4x] at cU;obtain⟨YR,W5⟩:=cU;have fY:∀ k∈f,w'.heap[k]?=w.heap[k]?:=λ k hk=>EN k λ e=>YR (e ▸ hk);obtain⟨g0,g1,g2,rfl,_,m1,m2⟩:=bR.split (xs.map bj.aQ) i (bj.aQ (xs.getD i bj.zero)) eQ cM (by simp[List.getD,eY]);obtain⟨v,p0,p1,p2,rfl,q1,q2,q3⟩:=Ub hu0 yL m1;have hy2:=q3 w' ⟨τ,u⟩ y (a.eval x) [] hy (λ k hk=>fY k (by simp at hk ⊢;rcases hk with hk|hk<;>simp[hk])) (c3.aR _ (by simp));have hr:=m2 w' (bj.aQ y) _ (p0++[]++p2) (λ k hk=>fY k (by simp at hk ⊢;rcases hk with hk|hk<;>simp[hk])) (by simp only[b5e,b4e,b4V];omega) hy2;rw[a2V l _ _ _ _ WX hlen,<-b6G] at hr;refine⟨_,by rw[c1,hs1,Yr _ _ _ (by omega)];exact hr,?_,λ hk=>YR ?_,λ k hk => .inl ?_⟩
    .refine CY (f1:=p0++p1++p2) W5 (CY (f1:=p1) ?_ b4Q (by simp)) (λ k hk => .inl (by simp at hk ⊢;rcases hk with hk|hk<;>simp[hk]));rw[b4h,b4h] at W5;exact W5.1.2.1
    .simp at hk ⊢;rcases hk with hk|hk|hk|hk<;>simp[hk]
    .simp at hk ⊢;rcases hk with hk|hk|hk|hk<;>simp[hk])
   exact JW bB k1 k2
  case h_2 Ga =>
   split at hq;case h_2=>cases hq
   case h_1 y ids oL ht =>
   split at hq;case h_2=>cases hq
   case h_1 y' cU hy' =>
   simp only[b3C,b3F] at hq;obtain⟨rfl,rfl⟩:=hq;have oL:=b3G oL;subst oL;have e:=TV.aW hy';have et:τ=bj:=congrArg TV.τ e;subst et;cases e;have cU:=cX cU;rw[b4x] at cU;obtain⟨a9X,a8X⟩:=cU;obtain⟨fq,o1,o2,o3⟩:=mZ h ht hxv a8X;have kr:=DZ.cells o1;have hlen:=Ow.length _ kr;rw[Ty.cP] at hlen;have h1:=Ar ids h;have ZX:=TU ids aX a9X;obtain⟨_,b0,m0,b1N,l0,b2D,hi0,hp0⟩:=hp;obtain⟨w',G',k1,k2⟩:=Yy hE h1 hT ZX (i:=i) (off:=0) (p:=a.eval ad) ⟨by rw[ZX];rfl,b0,m0,b1N,l0,b2D,hi0,hp0⟩ (y:=y) (x:=a.eval x) (by omega) hlen
    (Rd.nI (S:=λ b=>b∈fq) (x:=y) (Ow.rd _ kr λ b hb=>hb)) (λ b f l w' R6 b3j eQ EN=>by
    have cM:∀ d∈xs.map τ.aQ,d.size=τ.size:=by
     intro d hd;obtain⟨z,_,rfl⟩:=b3N.1 hd;exact Ty.cP τ z
    have TY:=h.aP.nd id τ xs aX;rw[R6,b4x] at TY;obtain⟨YR,W5⟩:=TY;have fY:∀ k∈f,w'.heap[k]?=w.heap[k]?:=λ k hk=>EN k λ e=>YR (e ▸ hk);have Co:∀ k∈fq,k∉b::f:=λ k hk l9=>by
     refine h.iX (o3 k hk) (j:=[id]) ⟨id,by simp, .inl ⟨τ,xs,aX,by rw[R6];exact l9⟩⟩ λ x1 hx1 y1 Y0 e=>?_;simp only[b4m] at Y0;exact a9X (by rw[<-Y0,<-e];exact hx1)
    obtain⟨g0,g1,g2,rfl,_,m1,m2⟩:=bR.split (xs.map τ.aQ) i (τ.aQ (xs.getD i τ.zero)) eQ cM (by simp[List.getD,eY]);have hr:=m2 w' (τ.aQ y) (a.eval x).cells.toList fq (λ k hk=>fY k (by simp at hk ⊢;rcases hk with hk|hk<;>simp[hk])) hlen (kr.aR _ λ k hk=>EN k λ e=>Co k hk (by simp[e]));rw[<-b6G] at hr;refine⟨g0++fq++g2,by rw[b5D];exact hr,?_,λ hk=>?_,λ k hk=>?_⟩
    .rw[b4h,b4h] at W5;obtain⟨⟨n1,n2,n3⟩,n4,n5⟩:=W5;refine eb (eb n1 o2 λ k hk l9=>Co k l9 (by simp[hk])) n4 λ k hk l9=>?_;rcases b3H.1 hk with hk|hk
     .exact n5 k (b3H.2 (.inl hk)) k l9 rfl
     .exact Co k hk (by simp[l9])
    .rcases b3H.1 hk with hk|hk
     .rcases b3H.1 hk with hk|hk
      .exact YR (by simp[hk])
      .exact Co b hk (by simp)
     .exact YR (by simp[hk])
    .rcases b3H.1 hk with hk|hk
     .rcases b3H.1 hk with hk|hk
      .exact .inl (by simp[hk])
      .exact .inr (PG h (o3 k hk))
     .exact .inl (by simp[hk]))
   exact JW bB k1 k2
 case h_5 T l cc bB =>
  split at hq;case h_2=>cases hq
  case h_1 d τ b e hd hT =>
  split at hq;case h_2=>cases hq
  case h_1 oM =>
  have b2k:d<50:=by
   simp only[Bool.and_eq_true] at oM;simpa [Nat.blt_eq] using oM.2
  split at hq;case h_2=>cases hq
  case h_1 n m hn hm =>
  simp only[b3C,b3F] at hq;obtain⟨rfl,rfl⟩:=hq;have hl:=bx h l;have hc:=bx h cc;rw[hn] at hl;rw[hm] at hc;obtain⟨hl,_⟩:=hl;obtain⟨hc,_⟩:=hc;simp only[b3O,b3T] at hl hc;obtain⟨v1,v2,v3,v4⟩:=T6 ep;obtain⟨h1,_,i,z,h3,h4,h5,h6,h7⟩:=hE.slice hT;have hzo:=a8G (c:=c) (G:=G) (s:=s) (w:=w.alloc (.cells (madeCells z.cells (m.toNat * i.size)) e)) h7;have hzl:=Ow.length _ hzo;rw[Ty.cP,b4K] at hzl;have hr:=run_make (P:=c.P) w T e i z h1 h3 h6 .i64 .i64 n m v1 v2 (by rw[h5];omega) (by omega);have hI:=bw.alloc (RW h d) (.cells (madeCells z.cells (m.toNat * i.size)) e);have tu:(s.gone d).af d=none:=by rw[Gq,b4n rfl]
  obtain⟨r1,r2⟩:=hI.X3 tu;have eQ:bR (w.alloc (.cells (madeCells z.cells (m.toNat * i.size)) e)) ((List.replicate n.toNat τ.zero).map τ.aQ) (madeCells z.cells (m.toNat * i.size)).toList []:=by
   rw[b7C];have hle:n.toNat * z.cells.size<=m.toNat * i.size:=by rw[h4,hzl];exact b5L _ (by omega)
   have:=bR.more _ ((madeCells z.cells (m.toNat * i.size)).toList.drop (n.toNat * z.cells.size)) (Mc hzo n.toNat);rwa [<-Hn _ _ _ hle,b4S] at this
  have hT':il (w.alloc (.cells (madeCells z.cells (m.toNat * i.size)) e)) (.tuple (.slice (some ⟨w.heap.size,0,none⟩) n.toNat m.toNat::(madeCells z.cells (m.toNat * i.size)).toList).toArray) τ (List.replicate n.toNat τ.zero) [w.heap.size] :=
   ⟨_,_,some ⟨w.heap.size,0,none⟩,m.toNat,rfl,by simp,by simp;omega,by simp only[maxLen];omega,by simp;omega, .inr ⟨w.heap.size,[],e,rfl,rfl,by simpa using heap_alloc_new w (.cells (madeCells z.cells (m.toNat * i.size)) e),by simp[madeCells,h4],eQ⟩⟩
  have hN:=hI.XZ d τ (List.replicate n.toNat τ.zero) _ [w.heap.size] tu r1 r2 (by
   cases hr:c.R d with
   | none=>rfl
   | some v=>exact absurd (h.iP d v hr).1 (Nat.not_le.2 b2k)) hT' (by simp) (λ k hk=>by
   simp only[b4m] at hk;subst hk;have hg:=RW h d;refine⟨.inl h.aR.size,λ hs=>b5X _ (h.dH _ hs),by simp,λ i o cE rh=>?_,λ j lj nN hj oa=>?_⟩
   .exact b5X _ (hg.place i o _ cE rh).2.2
   .exact b5X _ (hg.aP.pl j lj nN _ hj oa).2.2.1)
  unfold Oper.wp;have cH:(execOp a.eval o).run c.P w = .ok (.value (.slice (some ⟨w.heap.size,0,none⟩) n.toNat m.toNat)) (w.alloc (.cells (madeCells z.cells (m.toNat * i.size)) e)):=by
   simp only[execOp,bB,hl,hc,b4q,hr,b4g,b4s]
  rw[cH];have key:=bw.put (d:=some d) (v := .aw d) (x := .slice (some ⟨w.heap.size,0,none⟩) n.toNat m.toNat) hN ⟨by simp[cx],_,by simp;rfl,_,_,_,rfl⟩;have cF:ah.af { aB:=(s.gone d).aB.set d (.aw d),aN:=(d, .aw τ (List.replicate n.toNat τ.zero))::(s.gone d).aN }=λ i=>if i=d then some (.aw τ (List.replicate n.toNat τ.zero)) else (s.gone d).af i:=by
   funext i;exact dB _ _ _ _
  have conv:∀ G',bw c G' (j9 (s.gone d).aB.length (s.gone d).sl (some d) (.aw d)) (s.gone d).aB.length (λ i=>if i=d then some (.aw τ (List.replicate n.toNat τ.zero)) else (s.gone d).af i) (a.put (some d) (.slice (some ⟨w.heap.size,0,none⟩) n.toNat m.toNat)) (w.alloc (.cells (madeCells z.cells (m.toNat * i.size)) e))->Inv c G' { aB:=(s.gone d).aB.set d (.aw d),aN:=(d, .aw τ (List.replicate n.toNat τ.zero))::(s.gone d).aN } (a.put o.dst (.slice (some ⟨w.heap.size,0,none⟩) n.toNat m.toNat)) (w.alloc (.cells (madeCells z.cells (m.toNat * i.size)) e)):=by
   intro G' hh;unfold Inv;rw[cF,hd,show ah.sl { aB:=(s.gone d).aB.set d (.aw d),aN:=(d, .aw τ (List.replicate n.toNat τ.zero))::(s.gone d).aN }=j9 (s.gone d).aB.length (s.gone d).sl (some d) (.aw d) from sy _ d _ _,
    show ({ aB:=(s.gone d).aB.set d (.aw d),aN:=(d, .aw τ (List.replicate n.toNat τ.zero))::(s.gone d).aN }:ah).aB.length=(s.gone d).aB.length from by simp]
   exact hh
  exact⟨_,conv _ key⟩
 case h_6 cl bB =>
  split at hq;case h_1 gT =>
   split at hq;case h_2=>cases hq
   case h_1 T id hTs Dt =>
   split at hq;case h_2=>cases hq
   case h_1 t r _ τ xs hT aX =>
   simp only[b3C,b3F] at hq;obtain⟨rfl,rfl⟩:=hq;have dF:=aV.pj (bx h) cl.args.toList;rw[Dt] at dF;match lB:cl.args.toList.map a.eval,dF with
   | [x],dF =>
    obtain⟨_,l,eH,ad,m,cap,Lf⟩:=dF.1;have hm:m=xs.length/\xs.length<=140737488355328:=by
     obtain⟨v0,l0,a1,ZB,q1,q2,_,_,q5,_⟩:=h.aP.tr id τ xs aX;rw[eH,Lf] at q1;simp only[b5k] at q1;have q1:(Value.slice ad m cap::l)=v0::l0:=congrArg Array.toList q1;simp only[b3O] at q1;rw[q2] at q1;simp only[b5q] at q1;exact⟨q1.1.2.1,q5⟩
    obtain⟨rfl,hmx⟩:=hm;have PY:cl.argTypes = #[T]:=by rw[<-b4N (xs:=cl.argTypes),hTs]
    have I7:cl.args.map a.eval = #[x]:=by rw[<-b4N (xs:=cl.args.map a.eval),b5F,lB]
    have WZ:(execOp a.eval o)=(do let d <-resolve a.eval cl o.type;invoke d.target d.args):=by simp[execOp,bB]
    have TX:(execOp a.eval o).run c.P w=((Builtin.len_ #[T] o.type #[x]).run c.P w).andThen λ v w => .ok (.value v) w:=by
     rw[WZ];simp[resolve,gT,invoke,builtin,PY,I7]
    obtain⟨k1,_,_⟩:=hE.slice hT;have hel:∃ q,c.P.elem T=q/\c.P.underlying T=some (.slice q):=⟨_,by simp[Program.elem,k1],k1⟩;obtain⟨q,hel,k1⟩:=hel;refine JR h (x := .int .i64 xs.length) ?_ (Q5 ⟨by omega,by omega⟩);rw[TX,Lf,run_len_slice w T o.type ad xs.length cap (by rw[hel];exact k1)];rfl
  case h_2 f gT =>
   split at hq;case h_2=>cases hq
   case h_1 d hd =>
   split at hq;case h_2=>cases hq
   split at hq;case h_1 m hm =>
    have cH:∀ x y:Value,cl.args.toList.map a.eval=[x,y]->jQ c.P f->(execOp a.eval o).run c.P w = .ok (.enter f [x,y].toArray) w:=λ x y hxy od=>by
     rw[<-hxy];exact gX bB gT rfl od
    unfold a5f at hq;split at hq;case h_1 id k dF =>
     split at hq;case h_2=>cases hq
     case h_1 τ xs aX =>
     split at hq;case h_2=>cases hq
     case h_1 x hx =>
     split at hq;case h_2=>cases hq
     case h_1 cV EP =>
     simp only[b3C,b3F] at hq;obtain⟨rfl,rfl⟩:=hq;obtain⟨v,z,e1,e2,e3⟩:=VA h dF;obtain⟨LM,g⟩:=m;have ex:=TV.aW hx;have et:Ty.slice τ=LM:=congrArg TV.τ ex;subst et;cases ex;have ex':=TV.aW EP;have hxe:(g xs k).2.1=cV:=by cases ex';rfl
     have:=Vh hE h hm aX e2 e3 ep hd (cH v z e1) (Q:=Q);rw[<-hxe];exact this
    case h_2 id i off sz k dF =>
     split at hq;case h_2=>cases hq
     case h_1 τ xs aX =>
     split at hq;case h_2=>cases hq
     case h_1 u hu =>
     split at hq;case h_2=>cases hq
     case h_1 x hx hb =>
     split at hq;case h_2=>cases hq
     case h_1 y hy =>
     simp only[Option.some.injEq,Prod.mk.injEq] at hq;obtain⟨rfl,rfl⟩:=hq;simp only[Bool.and_eq_true,Bool.not_eq_true'] at hb;obtain⟨F3,Nx,WX⟩:=hb;have F3:=Nat.eq_of_beq_eq_true F3;subst F3;obtain⟨v,z,e1,e2,e3⟩:=VA h dF;exact XM hE h hm aX hu hx Nx (by simpa [Nat.blt_eq] using WX) hy e2 e3 ep hd (cH v z e1)
    case h_3 cs k dF =>
     split at hq;case h_2=>cases hq
     case h_1 x ids ht =>
     split at hq;case h_2=>cases hq
     case h_1 hb =>
     simp only[b3C,b3F] at hq;obtain⟨rfl,rfl⟩:=hq;simp only[b3J,b4C] at hb;obtain⟨v,z,e1,e2,e3⟩:=VA h dF;exact XK hE h hm ht (cX hb.1) hb.2 e2 e3 ep hd (cH v z e1)
    case h_4=>cases hq
   case h_2 hm =>
    split at hq;case h_2=>cases hq
    case h_1 Z9 has =>
    split at hq;case h_2=>cases hq
    case h_1 pre res hc =>
    split at hq;case h_2=>cases hq
    case h_1 hb =>
    simp only[Option.some.injEq,Prod.mk.injEq] at hq;obtain⟨rfl,rfl⟩:=hq;simp only[Bool.and_eq_true,List.all_eq_true] at hb;exact Ye hE h has (aV.pj (bx h) cl.args.toList) hc ep hd (λ p hp=>by simpa using hb.1 p hp) (cX hb.2) (by omega) (λ od=>gX bB gT rfl od)
  case h_3=>cases hq
 case h_7=>cases hq
end
section
variable {w:World}
theorem bR.join{n:Nat}:∀ (ds:List D) {l:List Value} {fp:List Nat},bR w ds l fp->(∀ d∈ds,d.size=n) ->
  ds.length * n<=l.length/\∀ (es:List D) (m:List Value) (f2:List Nat),bR w es m f2->bR w (ds++es) (l.take (ds.length * n)++m) (fp++f2)
 | [],l,fp,h,_=>by
  have h:fp=[]:=h;subst h;exact⟨by simp,λ es m f2 k=>by simpa using k⟩
 | d::ds,l,fp,h,hn=>by
  obtain⟨c,r,f1,f2,rfl,rfl,h3,h4⟩:=h;have hc:c.length=n:=by rw[Ow.length d h3];exact hn d (by simp)
  obtain⟨k1,k2⟩:=bR.join ds h4 λ d hd=>hn d (by simp[hd]);have e:(d::ds).length * n=c.length+ds.length * n:=by rw[b3P,b4X,hc];omega
  refine⟨by rw[e,b3U];omega,λ es m f3 k=>?_⟩;refine⟨c,r.take (ds.length * n)++m,f1,f2++f3,?_,by simp,h3,k2 es m f3 k⟩;rw[e,DT,b4H]
theorem bR.rdL{n:Nat}:∀ (ds:List D) {l:List Value} {fp:List Nat},bR w ds l fp->(∀ d∈ds,d.size=n)->dT w (λ _=>True) ds (l.take (ds.length * n))
 | [],l,fp,h,_=>by simp[dT]
 | d::ds,l,fp,h,hn=>by
  obtain⟨c,r,f1,f2,rfl,rfl,h3,h4⟩:=h;have hc:c.length=n:=by rw[Ow.length d h3];exact hn d (by simp)
  have e:(d::ds).length * n=c.length+ds.length * n:=by rw[b3P,b4X,hc];omega
  exact⟨c,r.take (ds.length * n),by rw[e,DT],Ow.rd d h3 λ _ _=>trivial,bR.rdL ds h4 λ d hd=>hn d (by simp[hd])⟩
theorem N0{τ:Ty}(xs:List τ.den):∀ d∈xs.map τ.aQ,d.size=τ.size:=by
 intro d hd;obtain⟨z,_,rfl⟩:=b3N.1 hd;exact Ty.cP τ z
theorem TO{g k:Nat}{l:List Value}{t:TypeId}(h:w.heap[g]?=some (.cells l.toArray t (0,0))):∀ j v,(l.take k)[j]?=some v->w.cell? ((⟨g,0,none⟩:Addr).add j)=some v:=by
 intro j v hj;rw[Addr.add_lit];have:=IH (w:=w) (b:=g) (p:=[]) (c:=l.take k) (r:=l.drop k) (t:=t) (by simpa using h) j v hj;simpa using this
theorem Rb{P:Program}(t ty e:TypeId)(i:TypeInfo)(ht:P.underlying t=some (.slice e))(hi:P.info? e=some i)
  (g Yo a8k:Nat) (cur:Array Value) (t2:TypeId) (hg:w.heap[g]?=some (.cells cur t2 (0,0)))
  (a:Addr) (m c:Nat) (news:List Value) (hl:news.length=m * i.size) (W4:∀ j u,news[j]?=some u->w.cell? (a.add j)=some u) (h1:∀ u∈news,u.oneCell'=true)
  (F9:Yo+m<=a8k) (EL:Yo * i.size+news.length<=cur.size) :
  (Builtin.append_ #[t,t] ty #[.slice (some ⟨g,0,none⟩) Yo a8k, .slice (some a) m c]).run P w =
   .ok (.slice (some ⟨g,0,none⟩) (Yo+m) a8k) (w.setRow g (cur.toList.take (Yo * i.size)++news++cur.toList.drop (Yo * i.size+news.length)).toArray):=by
 have hf:=run_firstCells_some (P:=P) w i.size m a m c news hl W4;have cv:=run_storeCells_at P g (Yo * i.size) t2 news 0 cur w hg (by simpa using EL) h1;simp only[Nat.add_zero] at cv;simp[Builtin.append_,run_underlying ht,sizeOf,typeInfo,hi,Builtin.lenOf,F9,hf,Addr.add_lit,cv]
theorem ZT{τ:Ty}{zs:List τ.den}{q:List Value}{fp:List Nat}{z:Array Value}{cap:Nat}{e:TypeId}(hq:bR w (zs.map τ.aQ) q fp)(hql:q.length=zs.length * τ.size)(Xg:z.size=τ.size)
  (hc:zs.length<=cap) (hm:cap<=maxLen) (h47:zs.length<=140737488355328) (bN:∀ b∈fp,b<w.heap.size) :
  il (w.drew.alloc (.cells (q.toArray++Builtin.zeroCells z (cap - zs.length)) e)) (.tuple (.slice (some ⟨w.heap.size,0,none⟩) zs.length cap::(q.toArray++Builtin.zeroCells z (cap - zs.length)).toList).toArray) τ zs (w.heap.size::fp):=by
 refine⟨_,_,some ⟨w.heap.size,0,none⟩,cap,rfl,rfl,hc,hm,h47, .inr ⟨w.heap.size,fp,e,rfl,rfl,?_,?_,?_⟩⟩
 .rw[b4N];exact b6L w.drew _
 .simp only[b7z,b3U,hql,b4K,size_zeroCells,Xg];rw[<-b4X];congr 1;omega
 .rw[b7z];have hk:∀ b∈fp,(w.drew.alloc (.cells (q.toArray++Builtin.zeroCells z (cap - zs.length)) e)).heap[b]?=w.heap[b]?:=λ b hb=>heap_alloc_old w.drew _ b (bN b hb);have:=bR.aR _ hq hk;have more:∀ (ds:List D) {l:List Value} {f:List Nat} (m:List Value),bR (w.drew.alloc (.cells (q.toArray++Builtin.zeroCells z (cap - zs.length)) e)) ds l f->bR (w.drew.alloc (.cells (q.toArray++Builtin.zeroCells z (cap - zs.length)) e)) ds (l++m) f:=by
   intro ds;induction ds with
   | nil=>intro l f m h;exact h
   | cons d ds ih =>
    intro l f m h;obtain⟨cc,r,f1,f2,rfl,hf,h3,h4⟩:=h;exact⟨cc,r++m,f1,f2,by simp,hf,h3,ih m h4⟩
  exact more _ _ this
end
section
variable {c:Ctx} {G:Gh} {sl:Nat->AV} {n:Nat} {lk:Nat->Option aD} {a:Act} {w w':World}
theorem a0B(hE:bH c.P c.E){T:TypeId}{τ:Ty}{b e:Nat}(hT:af c.E.ty T=some (.slice τ,b,e)){xs ys:List τ.den}{x y:Value}{fx fy:List Nat}
  (hx:Ow w (.slice τ.size (xs.map τ.aQ)) [x] fx) (hy:Ow w (.slice τ.size (ys.map τ.aQ)) [y] fy) (hlx:∀ k∈fx,k<w.heap.size) (hly:∀ k∈fy,k<w.heap.size) (W6:fx.Nodup) (hny:fy.Nodup) (hd:∀ k∈fx,k∉fy)
  (F9:aY (xs.length+ys.length) b) (ty:TypeId) :
  ∃ v' w' fp l,(Builtin.append_ #[T,T] ty #[x,y]).run c.P w = .ok v' w'/\il w' (.tuple (v'::l).toArray) τ (xs++ys) fp/\(∃ a n m,v' = .slice a n m)/\fp.Nodup/\(∀ k∈fp,k∈fx\/k∈fy\/(w.heap.size<=k/\k<w'.heap.size))/\bE (λ k=>k∈fx) w w':=by
 obtain⟨k1,⟨b',e',k2⟩,i,zv,k3,k4,k5,k6,k7⟩:=hE.slice hT;have Xg:zv.cells.size=τ.size:=by
  have:=Rd.length _ (Rt (w:=w) (S:=λ _=>True) k7);rwa [Ty.cP,b4K] at this
 have Qc:=τ.size_pos;have UC:(xs.length+ys.length) * b<=140737488355328/\xs.length+ys.length<=140737488355328:=by
  unfold aY at F9;rw[Nat.mul_add,Nat.mul_one] at F9;omega
 have Qb:xs.length+ys.length<=maxLen:=by simp only[maxLen];omega
 obtain⟨lx,hxT,_⟩:=il.a1k hx;have hx0:=hx;obtain⟨ax,LR,x1,x2,x3,x4,x5⟩:=hx;obtain⟨ay,a1L,y1,y2,y3,y4,y5⟩:=hy;simp only[b3O,b3T,b3Y] at x1 x2 x4 y1 y2 y4;subst x1 y1;have same:(Builtin.append_ #[T,T] ty #[.slice ax xs.length LR, .slice ay ys.length a1L]).run c.P w = .ok (.slice ax xs.length LR) w->ys=[]->∃ v' w' fp l,(Builtin.append_ #[T,T] ty #[.slice ax xs.length LR, .slice ay ys.length a1L]).run c.P w = .ok v' w'/\il w' (.tuple (v'::l).toArray) τ (xs++ys) fp/\(∃ a n m,v' = .slice a n m)/\fp.Nodup/\(∀ k∈fp,k∈fx\/k∈fy\/(w.heap.size<=k/\k<w'.heap.size))/\bE (λ k=>k∈fx) w w':=by
  intro hr he;subst he;exact⟨_,w,fx,lx,hr,by simpa using hxT,⟨_,_,_,rfl⟩,W6,λ k hk => .inl hk,bE.refl _ _⟩
 rcases y5 with ⟨q1,⟨q2,q3⟩,q4⟩|⟨gy,f2,l2,t2,q1,q2,q3,q4,q5⟩
 .have R5:ys=[]:=by simpa using q1
  subst R5;refine same ?_ rfl;subst q2;simp[Builtin.append_,b4F k1,sizeOf,typeInfo,k3,Builtin.lenOf,Builtin.firstCells,x2,storeCells];cases ax<;>rfl
 .subst q1 q2;have hsy:=N0 ys;obtain⟨j1,_⟩:=bR.join _ q5 hsy;rw[b3Y] at j1;have F8:(l2.take (ys.length * τ.size)).length=ys.length * τ.size:=by rw[b4e];omega
  have I4:∀ u∈l2.take (ys.length * τ.size),u.oneCell'=true:=by
   have:=bR.rdL _ q5 hsy;rw[b3Y] at this;exact dT.nI this
  have W4:=TO (w:=w) (k:=ys.length * τ.size) q3;have a7H:bR w (ys.map τ.aQ) (l2.take (ys.length * τ.size)) f2:=by
   have:=(bR.join _ q5 hsy).2 [] [] [] rfl;simpa using this
  rcases x5 with ⟨p1,⟨p2,p3⟩,p4⟩|⟨gx,f1,l1,t1,p1,p2,p3,p4,p5⟩
  .have lB:xs=[]:=by simpa using p1
   subst lB p2 p3 p4;by_cases hm:ys=[]
   .refine same ?_ hm;subst hm;simp[Builtin.append_,b4F k1,sizeOf,typeInfo,k3,Builtin.lenOf,Builtin.firstCells,loadCells,loadCellsFrom]
   .have hm0:0<ys.length:=List.length_pos_iff.2 hm;have hr:=run_append_nil (P:=c.P) w T ty e i zv k1 k3 k6 ⟨gy,0,none⟩ ys.length a1L (l2.take (ys.length * τ.size)) (by rw[F8,k4]) W4 hm0 (by omega) (by rw[k5];have:=UC.1;simp only[List.length_nil,Nat.zero_add] at this;omega);have hg:=ZT (w:=w) (e:=e) (zs:=ys) (cap:=grownCap w ys.length 0 e) a7H F8 Xg (grownCap_ge w ys.length 0 e) (grownCap_le_maxLen w ys.length 0 e (by simpa using Qb)) (by omega) (λ k hk=>hly k (by simp[hk]));refine⟨.slice (some ⟨w.heap.size,0,none⟩) ys.length (grownCap w ys.length 0 e),w.drew.alloc (.cells ((l2.take (ys.length * τ.size)).toArray++Builtin.zeroCells zv.cells (grownCap w ys.length 0 e - ys.length)) e),w.heap.size::f2,_,hr,hg,⟨_,_,_,rfl⟩,?_,?_,⟨rfl,rfl,rfl,by simp,λ k hk _=>heap_alloc_old w.drew _ k hk⟩⟩
    .rw[b4x] at hny ⊢;exact⟨λ hh=>b5X _ (hly _ (by simp[hh])),hny.2⟩
    .intro k hk;rcases b3Z.1 hk with rfl|hk
     .exact .inr (.inr ⟨b4r _,by simp⟩)
     .exact .inr (.inl (by simp[hk]))
  .subst p1 p2;have hsx:=N0 xs;obtain⟨i1,i2⟩:=bR.join _ p5 hsx;rw[b3Y] at i1 i2;have xp:(l1.take (xs.length * τ.size)).length=xs.length * τ.size:=by rw[b4e];omega
   have W5:(f1++f2).Nodup/\gx∉f1++f2:=by
    rw[b4x] at W6 hny;refine⟨b4h.2 ⟨W6.2,hny.2,λ k hk k' l9 e=>?_⟩,λ hh=>?_⟩
    .subst e;exact hd k (by simp[hk]) (by simp[l9])
    .rcases b3H.1 hh with hh|hh
     .exact W6.1 hh
     .exact hd gx (by simp) (by simp[hh])
   have eQ:=i2 (ys.map τ.aQ) _ f2 a7H;rw[<-b5B] at eQ;by_cases EL:xs.length+ys.length<=LR
   .have kr:xs.length * i.size+(l2.take (ys.length * τ.size)).length<=l1.toArray.size:=by
     rw[F8,k4,<-b4X,List.size_toArray,p4];exact b5L _ EL
    have hr:=Rb (P:=c.P) (w:=w) T ty e i k1 k3 gx xs.length LR l1.toArray t1 p3 ⟨gy,0,none⟩ ys.length a1L (l2.take (ys.length * τ.size)) (by rw[F8,k4]) W4 I4 EL kr;have fY:∀ k,k≠gx->(w.setRow gx (l1.toArray.toList.take (xs.length * i.size)++l2.take (ys.length * τ.size)++l1.toArray.toList.drop (xs.length * i.size+(l2.take (ys.length * τ.size)).length)).toArray).heap[k]?=w.heap[k]?:=λ k hk=>nz w p3 k hk;refine⟨_,_,gx::(f1++f2),(l1.take (xs.length * τ.size)++l2.take (ys.length * τ.size)++l1.drop (xs.length * τ.size+ys.length * τ.size)),hr,?_,⟨_,_,_,rfl⟩,b4x.2 ⟨W5.2,W5.1⟩,?_,⟨rfl,rfl,rfl,by simp[World.setRow],λ k hk eZ=>fY k λ e=>eZ (by simp[e])⟩⟩
    .refine⟨_,_,some ⟨gx,0,none⟩,LR,rfl,by simp,by simpa using EL,x3,by simp;omega, .inr ⟨gx,f1++f2,t1,rfl,rfl,?_,?_,?_⟩⟩
     .have:=b7E w gx l1.toArray (l1.toArray.toList.take (xs.length * i.size)++l2.take (ys.length * τ.size)++l1.toArray.toList.drop (xs.length * i.size+(l2.take (ys.length * τ.size)).length)).toArray t1 (0,0) p3;rw[this,F8,k4]
     .simp only[b3U,xp,F8,b4V,p4];have:xs.length * τ.size+ys.length * τ.size<=LR * τ.size:=by rw[<-b4X];exact b5L _ EL
      omega
     .have hk:∀ k∈f1++f2,(w.setRow gx (l1.toArray.toList.take (xs.length * i.size)++l2.take (ys.length * τ.size)++l1.toArray.toList.drop (xs.length * i.size+(l2.take (ys.length * τ.size)).length)).toArray).heap[k]?=w.heap[k]?:=λ k hk=>fY k λ e=>W5.2 (e ▸ hk);have h2:=bR.aR _ eQ hk;have more:∀ (w2:World) (ds:List D) {l:List Value} {f:List Nat} (m:List Value),bR w2 ds l f->bR w2 ds (l++m) f:=by
       intro w2 ds;induction ds with
       | nil=>intro l f m h;exact h
       | cons d ds ih =>
        intro l f m h;obtain⟨cc,r,f1,f2,rfl,hf,h3,h4⟩:=h;exact⟨cc,r++m,f1,f2,by simp,hf,h3,ih m h4⟩
      exact more _ _ _ h2
    .intro k hk;rcases b3Z.1 hk with rfl|hk
     .exact .inl (by simp)
     .rcases b3H.1 hk with hk|hk
      .exact .inl (by simp[hk])
      .exact .inr (.inl (by simp[hk]))
   .have hr:=run_append_grow (P:=c.P) w T ty e i zv k1 k3 k6 ⟨gx,0,none⟩ xs.length LR (l1.take (xs.length * τ.size)) (by rw[xp,k4]) (TO p3) ⟨gy,0,none⟩ ys.length a1L (l2.take (ys.length * τ.size)) (by rw[F8,k4]) W4 (by omega) (by omega) (by rw[k5];exact growslice_fits (by omega) UC.1);have hql:(l1.take (xs.length * τ.size)++l2.take (ys.length * τ.size)).length=(xs++ys).length * τ.size:=by rw[b3U,xp,F8,b3U,b4X]
    have hle:(xs++ys).length=xs.length+ys.length:=b3U;have bN:∀ k∈f1++f2,k<w.heap.size:=λ k hk=>by
     rcases b3H.1 hk with hk|hk
     .exact hlx k (by simp[hk])
     .exact hly k (by simp[hk])
    have hg:=ZT (w:=w) (e:=e) (zs:=xs++ys) (cap:=grownCap w (xs.length+ys.length) LR e) eQ hql Xg (by rw[hle];exact grownCap_ge w _ _ e) (grownCap_le_maxLen w _ _ e Qb) (by omega) bN;rw[hle] at hg;refine⟨_,w.drew.alloc (.cells ((l1.take (xs.length * τ.size)).toArray++(l2.take (ys.length * τ.size)).toArray++Builtin.zeroCells zv.cells (grownCap w (xs.length+ys.length) LR e - (xs.length+ys.length))) e),w.heap.size::(f1++f2),_,hr,by simpa [hle] using hg,⟨_,_,_,rfl⟩,?_,?_,⟨rfl,rfl,rfl,by simp,λ k hk _=>heap_alloc_old w.drew _ k hk⟩⟩
    .exact b4x.2 ⟨λ hh=>b5X _ (bN _ hh),W5.1⟩
    .intro k hk;rcases b3Z.1 hk with rfl|hk
     .exact .inr (.inr ⟨b4r _,by simp⟩)
     .rcases b3H.1 hk with hk|hk
      .exact .inl (by simp[hk])
      .exact .inr (.inl (by simp[hk]))
end
section
variable {c:Ctx} {G:Gh} {s:ah} {a:Act} {w w':World}
theorem Inv.built(h:Inv c G s a w){ids:List Nat}{d:Nat}{τ:Ty}{zs:List τ.den}{fp:List Nat}{v':Value}{l:List Value}(hk:bE (λ b=>yS G s.af ids b) w w')(hT:il w' (.tuple (v'::l).toArray) τ zs fp)
  (hv:∃ a n m,v' = .slice a n m) (cU:fp.Nodup) (pE:∀ b∈fp,yS G s.af ids b\/(w.heap.size<=b/\b<w'.heap.size)) (tu:(ids.foldl ah.gone s).af (bU d)=none) :
  ∃ G',Inv c G' ((ids.foldl ah.gone s).vB d τ zs) (a.put (some d) v') w':=by
 have h1:Inv c G (ids.foldl ah.gone s) a w:=Ar ids h;have hF:∀ b,yS G s.af ids b->yR c G (ids.foldl ah.gone s).af w b:=λ b hb=>PG h hb;generalize hs1:ids.foldl ah.gone s=s1 at *
 have jw:∀ b,b<w.heap.size->¬ yS G s.af ids b->w'.heap[b]?=w.heap[b]?:=λ b hb hn=>hk.block b hb hn;have h2:bw c G s1.sl s1.aB.length s1.af a w':=by
  refine bw.world (S':=G.S) h1 ⟨hk.os,hk.tape,hk.output,hk.size,λ b hb hn=>jw b hb λ hi=>hn (hF b hi).1⟩ (λ _ h=>h) (λ _ _=>b5G) h1.sX (λ b hb=>b3X (h1.dH b hb) hk.size) ?_ ?_ ?_
  .intro b hb;rcases hb with hb|hb
   .exact jw b (h1.dH b hb) λ hi=>(hF b hi).2.1 hb
   .exact jw b (b3X hb.1 h1.aR.size) λ hi=>(hF b hi).1.elim (λ q=>by omega) hb.2.1
  .intro id o b ho hb;exact jw b (h1.place id o b ho hb).2.2 λ hi=>(hF b hi).2.2.2.1 id o ho hb
  .intro id bj cV b ht hb;exact jw b (h1.aP.pl id bj cV b ht hb).2.2.1 λ hi=>(hF b hi).2.2.2.2 id bj cV ht hb
 obtain⟨r1,r2⟩:=h2.X3 tu;have hR:c.R (bU d)=none:=by
  cases hr:c.R (bU d) with
  | none=>rfl
  | some v=>have:=(h.iP _ v hr).2;unfold bU at this;omega
 have h3:=h2.XZ (bU d) τ zs _ fp tu r1 r2 hR hT cU (λ b hb=>by
  rcases pE b hb with hi|⟨q1,q2⟩
  .obtain⟨f1,f2,f3,f4,f5⟩:=hF b hi;exact⟨f1,f2,b3X f3 hk.size,f4,f5⟩
  .refine⟨.inl (b5v h1.aR.size q1),λ hs=>?_,q2,λ i o cE rh=>?_,λ j lj nN hj oa=>?_⟩
   .have:=h1.dH b hs;omega
   .have:=(h1.place i o b cE rh).2.2;omega
   .have:=(h1.aP.pl j lj nN b hj oa).2.2.1;omega)
 have key:=bw.put (d:=some d) (v := .aw (bU d)) (x:=v') h3 ⟨by simp[cx],l,by simp,hv⟩;have cF:(s1.vB d τ zs).af=λ i=>if i=bU d then some (.aw τ zs) else s1.af i:=by
  funext i;exact dB _ _ _ _
 have conv:∀ G',bw c G' (j9 s1.aB.length s1.sl (some d) (.aw (bU d))) s1.aB.length (λ i=>if i=bU d then some (.aw τ zs) else s1.af i) (a.put (some d) v') w'->Inv c G' (s1.vB d τ zs) (a.put (some d) v') w':=by
  intro G' hh;unfold Inv;rw[cF,show (s1.vB d τ zs).sl=j9 s1.aB.length s1.sl (some d) (.aw (bU d)) from sy _ d _ _,show (s1.vB d τ zs).aB.length=s1.aB.length from by simp[ah.vB]];exact hh
 exact⟨_,conv _ key⟩
theorem Inv.over{s1:ah}{X:Nat->Prop}(h1:Inv c G s1 a w)(hF:∀ b,X b->yR c G s1.af w b)(hk:bE X w w'):bw c G s1.sl s1.aB.length s1.af a w':=by
 have jw:∀ b,b<w.heap.size->¬ X b->w'.heap[b]?=w.heap[b]?:=λ b hb hn=>hk.block b hb hn;refine bw.world (S':=G.S) h1 ⟨hk.os,hk.tape,hk.output,hk.size,λ b hb hn=>jw b hb λ hi=>hn (hF b hi).1⟩ (λ _ h=>h) (λ _ _=>b5G) h1.sX (λ b hb=>b3X (h1.dH b hb) hk.size) ?_ ?_ ?_
 .intro b hb;rcases hb with hb|hb
  .exact jw b (h1.dH b hb) λ hi=>(hF b hi).2.1 hb
  .exact jw b (b3X hb.1 h1.aR.size) λ hi=>(hF b hi).1.elim (λ q=>by omega) hb.2.1
 .intro id o b ho hb;exact jw b (h1.place id o b ho hb).2.2 λ hi=>(hF b hi).2.2.2.1 id o ho hb
 .intro id bj cV b ht hb;exact jw b (h1.aP.pl id bj cV b ht hb).2.2.1 λ hi=>(hF b hi).2.2.2.2 id bj cV ht hb
theorem yR.a9h{lk:Nat->Option aD}{b:Nat}(h:yR c G lk w b):¬ SX G lk b:=by
 rintro (hb|⟨id,e,τ,ys,aX,hb⟩|⟨id,τ,ys,aX,hb⟩)
 .exact h.2.1 hb
 .exact h.2.2.2.1 id _ aX hb
 .exact h.2.2.2.2 id τ ys aX hb
theorem By(h:Inv c G s a w):∀ {fl:List Bool} {Ts:List TypeId} {vs:List AV} {xs:List Value} {own:List (Option TV)} {ids:List Nat},gO c.E s.af fl Ts vs=some (own,ids)->ids.Nodup->aV (VR c G s.af w) vs xs ->
  ∃ Dp:List (List Nat),aV (λ (o:Option TV) (q:Value×List Nat)=>match o with
   | some v=>DZ w v q.1 q.2
   | none=>q.2=[]) own (xs.zip Dp)/\Dp.length=xs.length/\Dp.flatten.Nodup/\∀ b∈Dp.flatten,yS G s.af ids b
 | [],[],[],[],own,ids,ht,_,_=>by
  simp only[gO,b3C,b3F] at ht;obtain⟨rfl,rfl⟩:=ht;exact⟨[],U,rfl,by simp,by simp⟩
 | true::fl,T::Ts,v::vs,x::xs,own,ids,ht,hn,hv=>by
  simp only[gO] at ht;split at ht;case h_2=>cases ht
  case h_1 τ q hT =>
  split at ht;case h_2=>cases ht
  case h_1 y i hy =>
  split at ht;case h_2=>cases ht
  case h_1 r j hr =>
  simp only[b3C,b3F] at ht;obtain⟨rfl,rfl⟩:=ht;rw[b4h] at hn;obtain⟨n1,n2,n3⟩:=hn;obtain⟨f1,o1,o2,o3⟩:=mZ h hy hv.1 n1;obtain⟨Dp,p1,p2,p3,p4⟩:=By h hr n2 hv.2;refine⟨f1::Dp,⟨o1,p1⟩,by simp[p2],?_,?_⟩
  .rw[List.flatten_cons];exact eb o2 p3 λ b hb cz=>h.iX (o3 b hb) (p4 b cz) (λ x hx y hy=>n3 x hx y hy)
  .intro b hb;rw[List.flatten_cons] at hb;rcases b3H.1 hb with hb|hb
   .exact (o3 b hb).mono λ i hi=>by simp[hi]
   .exact (p4 b hb).mono λ i hi=>by simp[hi]
 | false::fl,T::Ts,v::vs,x::xs,own,ids,ht,hn,hv=>by
  simp only[gO] at ht;split at ht;case h_2=>cases ht
  case h_1 r j hr =>
  simp only[Option.some.injEq,Prod.mk.injEq] at ht;obtain⟨rfl,rfl⟩:=ht;obtain⟨Dp,p1,p2,p3,p4⟩:=By h hr hn hv.2;exact⟨[]::Dp,⟨rfl,p1⟩,by simp[p2],by simpa using p3,by simpa using p4⟩
 | [],_::_,_,_,_,_,ht,_,_=>by simp[gO] at ht
 | [],[],_::_,_,_,_,ht,_,_=>by simp[gO] at ht
 | [],[],[],_::_,_,_,_,_,hv=>hv.elim
 | true::_,[],_,_,_,_,ht,_,_=>by simp[gO] at ht
 | false::_,[],_,_,_,_,ht,_,_=>by simp[gO] at ht
 | true::_,_::_,[],_,_,_,ht,_,_=>by simp[gO] at ht
 | false::_,_::_,[],_,_,_,ht,_,_=>by simp[gO] at ht
 | _,_,_::_,[],_,_,_,_,hv=>hv.elim
theorem xY(hE:bH c.P c.E)(h:Inv c G s a w):∀ {own:List (Option TV)} {Ts:List TypeId} {vs:List AV} {xs:List Value} {Dp:List (List Nat)} {Z9:List Arg},fF c.E s.af own Ts vs=some Z9 ->
  aV (λ (o:Option TV) (q:Value×List Nat)=>match o with
   | some v=>DZ w v q.1 q.2
   | none=>q.2=[]) own (xs.zip Dp)->Dp.length=xs.length->aV (VR c G s.af w) vs xs->wF c.P w (SX G s.af) Z9 xs Dp.flatten/\∀ a∈Z9,a.Oy=true
 | [],[],[],[],Dp,Z9,hm,hO,hl,hv=>by
  simp only[fF,Option.some.injEq] at hm;subst hm;have:Dp=[]:=List.eq_nil_of_length_eq_zero (by simpa using hl);subst this;exact⟨rfl,by simp⟩
 | some y::own,T::Ts,v::vs,x::xs,f::Dp,Z9,hm,hO,hl,hv=>by
  simp only[fF] at hm;split at hm;case h_2=>cases hm
  case h_1 r hr =>
  simp only[Option.some.injEq] at hm;subst hm;obtain⟨q1,q2⟩:=xY hE h hr hO.2 (by simpa using hl) hv.2;refine⟨⟨f,Dp.flatten,by simp,hO.1,q1⟩,λ a ha=>?_⟩;rcases List.mem_cons.1 ha with rfl|ha
  .rfl
  .exact q2 a ha
 | none::own,T::Ts,v::vs,x::xs,f::Dp,Z9,hm,hO,hl,hv=>by
  simp only[fF] at hm;split at hm;case h_2=>cases hm
  case h_1 y hy =>
  split at hm;case h_2=>cases hm
  case h_1 r T0 hr =>
  simp only[Option.some.injEq] at hm;subst hm;obtain⟨q1,q2⟩:=xY hE h hr hO.2 (by simpa using hl) hv.2;have hf:f=[]:=hO.1;subst hf;have h1:=iq hE h (λ _ _ h=>h) (λ _ h => .inl h) (λ τ v x y h1 h2=>Fv h.aP h.aN (λ _ _ h=>h) h1 h2) (Ts:=[T]) (vs:=[v]) (Z9:=[y]) (xs:=[x]) (by simp only[nf,hy]) ⟨hv.1,U⟩;refine⟨⟨[],Dp.flatten,by simp,?_,q1⟩,λ a ha=>?_⟩
  .have h1:=h1.1;cases y with
   | own v=>exact h1.elim
   | box k=>exact h1.elim
   | _=>exact⟨rfl,h1⟩
  .rcases b3Z.1 ha with rfl|ha
   .exact T0
   .exact q2 a ha
 | [],[],[],_::_,_,_,_,_,_,hv=>hv.elim
 | _,_,_::_,[],_,_,_,_,_,hv=>hv.elim
 | [],_::_,_,_,_,_,hm,_,_,_=>by simp[fF] at hm
 | [],[],_::_,_,_,_,hm,_,_,_=>by simp[fF] at hm
 | some _::_,[],_,_,_,_,hm,_,_,_=>by simp[fF] at hm
 | none::_,[],_,_,_,_,hm,_,_,_=>by simp[fF] at hm
 | some _::_,_::_,[],_,_,_,hm,_,_,_=>by simp[fF] at hm
 | none::_,_::_,[],_,_,_,hm,_,_,_=>by simp[fF] at hm
 | _::_,_::_,_::_,_::_,[],_,_,_,hl,_=>by simp at hl
theorem YA{lk:Nat->Option aD}{τ:Ty}:∀ {ps:List (Nat×AV)} {n:Nat} {xs:List τ.den} {ids:List Nat},J0 lk τ n ps=some (xs,ids)->xs.length=ps.length
 | [],n,xs,ids,h=>by
  simp only[J0,b3C,b3F] at h;obtain⟨rfl,_⟩:=h;rfl
 | (i,v)::ps,n,xs,ids,h=>by
  simp only[J0] at h;split at h
  .split at h
   .split at h
    .rename_i q;simp only[b3C,b3F] at h;obtain⟨rfl,_⟩:=h;simp[YA q]
    .cases h
   .cases h
  .cases h
theorem Ug(h:Inv c G s a w){τ:Ty}{place:Nat->Option (Nat×Nat)}(hp:∀ i,place i=some (i * τ.size,τ.size)) :
  ∀ {ps:List (Nat×AV)} {vs:List (Nat×Value)} {n:Nat} {xs:List τ.den} {ids:List Nat} {l:List Value},J0 s.af τ n ps=some (xs,ids)->aV (λ p q=>p.1=q.1/\VR c G s.af w p.2 q.2) ps vs->ids.Nodup ->
   (n+ps.length) * τ.size=l.length->∃ r fp,Instr.fill place l.toArray vs=some (l.take (n * τ.size)++r).toArray/\bR w (xs.map τ.aQ) r fp/\r.length=xs.length * τ.size/\fp.Nodup/\∀ b∈fp,yS G s.af ids b
 | [],[],n,xs,ids,l,h1,_,_,hl=>by
  simp only[J0,b3C,b3F] at h1;obtain⟨rfl,rfl⟩:=h1;refine⟨[],[],?_,rfl,by simp,b4Q,by simp⟩;simp only[b4b,b5D] at hl;rw[hl,b6i,b4W];rfl
 | (i,v)::ps,(j,x)::vs,n,xs,ids,l,h1,hv,cU,hl=>by
  obtain⟨⟨EM,hx⟩,Xb⟩:=hv;have EM:i=j:=EM;subst EM;simp only[J0] at h1;split at h1
  .rename_i eY;have eY:=b3G eY;subst eY;split at h1
   .rename_i y i1 hy;split at h1
    .rename_i ys js R5;simp only[b3C,b3F] at h1;obtain⟨rfl,rfl⟩:=h1;rw[b4h] at cU;obtain⟨n1,n2,n3⟩:=cU;obtain⟨f1,o1,o2,o3⟩:=mZ h hy hx n1;have hr:=DZ.cells o1;have cM:x.cells.size=τ.size:=by
      have:=Ow.length _ hr;rw[Ty.cP] at this;simpa using this
     simp only[b3P] at hl;have Qc:=τ.size_pos;have e1:(i+(ps.length+1)) * τ.size=i * τ.size+τ.size+ps.length * τ.size:=by
      rw[b4X,b4X];omega
     rw[RU place i _ _ x vs l (hp i) cM (by omega)];obtain⟨r,f2,q1,q2,q3,q4,q5⟩:=Ug h hp (l:=l.take (i * τ.size)++x.cells.toList++l.drop (i * τ.size+τ.size)) R5 Xb n2 (by
      simp[cM];rw[show (i+1+ps.length) * τ.size=i * τ.size+τ.size+ps.length * τ.size by rw[b4X,b4X];omega];omega)
     refine⟨x.cells.toList++r,f1++f2,?_,⟨_,_,f1,f2,rfl,rfl,hr,q2⟩,?_,?_,?_⟩
     .rw[q1];congr 2;rw[show (i+1) * τ.size=i * τ.size+τ.size by rw[b4X];omega];have ht:(l.take (i * τ.size)++x.cells.toList).length=i * τ.size+τ.size:=by simp[cM];omega
      rw[<-ht,b5P,b4H]
     .simp only[b3U,b3P,b4K,cM,q3,b4X];omega
     .exact eb o2 q4 λ b hb cz=>h.iX (o3 b hb) (q5 b cz) (λ x hx y hy=>n3 x hx y hy)
     .intro b hb;rcases b3H.1 hb with hb|hb
      .exact (o3 b hb).mono λ i hi=>by simp[hi]
      .exact (q5 b hb).mono λ i hi=>by simp[hi]
    .cases h1
   .cases h1
  .cases h1
 | [],_::_,_,_,_,_,_,hv,_,_=>hv.elim
 | _::_,[],_,_,_,_,_,hv,_,_=>hv.elim
theorem bE.a7X{X Y:Nat->Prop}{w w':World}(h:bE X w w')(hXY:∀ b,X b->Y b):bE Y w w':=⟨h.os,h.tape,h.output,h.size,λ b hb hn=>h.block b hb λ hx=>hn (hXY b hx)⟩
theorem a0Z(h:Inv c G s a w){ids:List Nat}{b:Nat}(hb:yS G s.af ids b):b<w.heap.size:=(PG h hb).2.2.1
theorem a3a{lk:Nat->Option aD}{τ:Ty}{v:AV}{r:τ.den×List Nat}(h:dY lk τ v=some r):v.cell=true\/∃ s x,v = .aI ⟨.st s,x⟩:=by
 cases v with
 | aI u =>
  obtain⟨bj,x⟩:=u;cases bj with
  | st s=>exact .inr ⟨s,x,rfl⟩
  | _=>exact .inl rfl
 | nil=>exact .inl rfl
 | aw id=>exact .inl rfl
 | row id=>exact .inl rfl
 | _=>simp[dY] at h
theorem a8u(h:Inv c G s a w){τ:Ty}{v:AV}{x:Value}{xs:List τ.den}{ids:List Nat}(ht:dY s.af (.slice τ) v=some (xs,ids))(hv:VR c G s.af w v x):∃ fp,Ow w (.slice τ.size (xs.map τ.aQ)) [x] fp/\fp.Nodup/\∀ b∈fp,yS G s.af ids b:=by
 rcases a3a ht with hc|⟨st,y,rfl⟩
 .exact C4 h ht (hv.a0t hc)
 .simp[dY,Ty.C3] at ht
theorem jW:∀ {us:List TV} {cs:List Value} {fp:List Nat},cZ w (us.map TV.aQ) cs fp->D2 us->cZ w ((us.map a3G).map TV.aQ) cs fp
 | [],_,_,h,_=>h
 | ⟨τ,x⟩::us,cs,fp,h,hf=>by
  obtain⟨v,r,f1,f2,rfl,rfl,h3,h4⟩:=h;cases τ with
  | mv t =>
   have hf:Option.isSome (α:=List t.den) x=true/\D2 us:=hf;refine⟨v,r,f1,f2,rfl,rfl,?_,jW h4 hf.2⟩;match x,hf.1,h3 with
   | some l,_,h3=>exact h3
  | ptr=>exact⟨v,r,f1,f2,rfl,rfl,h3,jW h4 hf⟩
  | int k=>exact⟨v,r,f1,f2,rfl,rfl,h3,jW h4 hf⟩
  | bool=>exact⟨v,r,f1,f2,rfl,rfl,h3,jW h4 hf⟩
  | str=>exact⟨v,r,f1,f2,rfl,rfl,h3,jW h4 hf⟩
  | slice t=>exact⟨v,r,f1,f2,rfl,rfl,h3,jW h4 hf⟩
  | st q=>exact⟨v,r,f1,f2,rfl,rfl,h3,jW h4 hf⟩
theorem Px:∀ {us:List TV} {cs:List Value} {fp:List Nat},cZ w (us.map TV.aQ) cs fp->(∀ u∈us,u.τ.VL=true)->cZ w ((us.map a0L).map TV.aQ) cs []
 | [],_,_,h,_=>⟨h.1,rfl⟩
 | ⟨τ,x⟩::us,cs,fp,h,hf=>by
  obtain⟨v,r,f1,f2,rfl,rfl,h3,h4⟩:=h;have hr:=Px h4 λ u hu=>hf u (by simp[hu]);have sc:τ.C3=true->Ow w (τ.aQ x) [v] []:=λ hs=>Ow.eo (S:=λ _=>True) _ (wz hs x) (Ow.rd _ h3 λ _ _=>trivial);have hm:τ.VL=true:=hf ⟨τ,x⟩ (by simp);cases τ with
  | mv t =>
   refine⟨v,r,[],[],rfl,rfl,?_,hr⟩;match x,h3 with
   | some l,h3=>obtain⟨a',cap,k1,_⟩:=h3;exact⟨⟨_,_,_,k1⟩,rfl⟩
   | none,h3=>exact⟨h3.1,rfl⟩
  | int k=>exact⟨v,r,[],[],rfl,rfl,sc rfl,hr⟩
  | bool=>exact⟨v,r,[],[],rfl,rfl,sc rfl,hr⟩
  | str=>exact⟨v,r,[],[],rfl,rfl,sc rfl,hr⟩
  | slice t=>cases hm
  | ptr=>exact⟨v,r,[],[],rfl,rfl,sc rfl,hr⟩
  | st q=>cases hm
theorem a6p(l:List Value)(k n:Nat):l.take k++(l.drop k).take n++l.drop (k+n)=l:=by
 rw[b4H,<-b5p,b4S,b4S]
theorem Inv.b0W(h:Inv c G s a w){id i:Nat}{p q:aS}{xs:List (Ty.den (.st p))}{y:p.den}{z:q.den}(aX:s.af id=some (.aw (.st p) xs))
  (hy:p.fR ((p.cells (xs.getD i (Ty.zero (.st p)))).map a0L)=some y) (hz:q.fR ((p.cells (xs.getD i (Ty.zero (.st p)))).map a3G)=some z) (Ga:p.zT.all Ty.VL=true)
  (b0O:D2 (p.cells (xs.getD i (Ty.zero (.st p))))) {a0:Option Addr} {n cap:Nat} {l:List Value} (eH:G.η id = .tuple (.slice a0 n cap::l).toArray) (hi:i<n) :
  ∃ G' f1 b,a0=some ⟨b,0,none⟩/\ct w b (i * p.size) ((l.drop (i * p.size)).take p.size)/\((l.drop (i * p.size)).take p.size).length=p.size/\Inv c G' (s.bZ.dE id (.st p) (xs.set i y)) a w /\
   Ow w (q.aQ z) ((l.drop (i * p.size)).take p.size) f1/\f1.Nodup/\Fr c G' (s.bZ.dE id (.st p) (xs.set i y)).af w f1:=by
 have hT:=h.aP.tr id _ xs aX;obtain⟨hn,b,f,t,e1,R6,hh,eQ⟩:=Fo hT eH hi;have hxi:i<xs.length:=by omega
 have L5:l.length=cap * p.size/\xs.length<=cap/\cap<=maxLen/\xs.length<=140737488355328:=by
  obtain⟨v0,l0,a1,ZB,k1,k2,k3,k4,k5,k6⟩:=hT;rw[eH] at k1;simp only[b5k] at k1;have k1:(Value.slice a0 n cap::l)=v0::l0:=congrArg Array.toList k1;simp only[b3O] at k1;obtain⟨k7,rfl⟩:=k1;rw[k2] at k7;simp only[b5q] at k7;obtain⟨_,_,rfl⟩:=k7;rcases k6 with ⟨rfl,_,_⟩|⟨_,_,_,_,_,_,k8,_⟩
  .simp at hxi
  .exact⟨k8,k3,k4,k5⟩
 have cM:∀ d∈xs.map (Ty.aQ (.st p)),d.size=p.size:=N0 (τ := .st p) xs;obtain⟨f0,f1,f2,hf,m0,m1,m2⟩:=bR.split (xs.map (Ty.aQ (.st p))) i (Ty.aQ (.st p) (xs.getD i (Ty.zero (.st p)))) eQ cM (by simp[List.getD,hxi]);have Cq:((l.drop (i * p.size)).take p.size).length=p.size:=by rw[b4e,b4V];omega
 have m1:Ow w (.agg ((p.cells (xs.getD i (Ty.zero (.st p)))).map TV.aQ)) ((l.drop (i * p.size)).take p.size) f1:=by
  have:=m1;rwa [show Ty.aQ (.st p) (xs.getD i (Ty.zero (.st p)))=p.aQ (xs.getD i (Ty.zero (.st p))) from rfl,aS.cA] at this
 have hz':Ow w (q.aQ z) ((l.drop (i * p.size)).take p.size) f1:=by
  rw[aS.cA,aS.oP hz];exact jW m1 b0O
 have hy':Ow w (p.aQ y) ((l.drop (i * p.size)).take p.size) []:=by
  rw[aS.cA,aS.oP hy];refine Px m1 λ u hu=>?_;have:u.τ∈p.zT:=by rw[<-aS.sQ p (xs.getD i (Ty.zero (.st p)))];exact b3N.2 ⟨u,hu,rfl⟩
  exact b4C.1 Ga _ this
 have hr:=m2 w (p.aQ y) _ [] (λ _ _=>rfl) Cq hy';rw[a6p,b4W] at hr;have cU:=h.aP.nd id _ xs aX;rw[R6,b4x,hf] at cU;obtain⟨P2,cU⟩:=cU;have b3A:=cU;rw[b4h,b4h] at cU;obtain⟨⟨d0,d1,d01⟩,d2,a9M⟩:=cU;have hT':il w (G.η id) (.st p) (xs.set i y) (b::(f0++f2)):=by
  refine⟨_,l,a0,cap,eH,by rw[hn,b5e],by rw[b5e];exact L5.2.1,L5.2.2.1,by rw[b5e];exact L5.2.2.2, .inr ⟨b,f0++f2,t,e1,rfl,hh,L5.1,?_⟩⟩;rw[b6G];exact hr
 have vS:∀ k∈b::(f0++f2),k∈G.φ id:=λ k hk=>by
  rw[R6,hf];simp only[b3Z,b3H] at hk ⊢;rcases hk with hk|hk|hk<;>simp[hk]
 have a7z:(b::(f0++f2)).Nodup:=by
  refine b4x.2 ⟨λ hk=>P2 ?_,eb d0 d2 λ x hx EP=>a9M x (by simp[hx]) x EP rfl⟩;simp only[b3H] at hk ⊢;rcases hk with hk|hk<;>simp[hk]
 have hf1:∀ k∈f1,k∈G.φ id/\k∉b::(f0++f2):=λ k hk=>by
  refine⟨by rw[R6,hf];simp[hk],λ hm=>?_⟩;simp only[b3Z,b3H] at hm;rcases hm with rfl|hm|hm
  .exact P2 (by simp[hk])
  .exact d01 k hm k hk rfl
  .exact a9M k (by simp[hk]) k hm rfl
 obtain⟨g1,g2,g3⟩:=h.bZ;have ZX:s.bZ.af id=some (.aw (.st p) xs):=by rw[kG];simp[aX,aD.df]
 let A:List (Nat×TE):=[(id,(G.η id,b::(f0++f2), .aw (.st p) (xs.set i y)))];have T:=LO.ofList (c:=c) (G:=G) (lk:=s.bZ.af) (w:=w) (w':=w) (A:=A) (λ e he=>by
  simp only[A,b4m] at he;subst he;exact⟨_,xs,_,_,l,l,ZX,rfl,eH,eH,hT',a7z⟩) (λ e he k hk=>by
  simp only[A,b4m] at he;subst he;exact .inl ⟨_,b4m.2 rfl,vS k hk⟩) (λ e he e' EK _ _ _=>by
  simp only[A,b4m] at he EK;rw[he,EK]) (by simp[A]) (λ _ _ _=>rfl) rfl rfl rfl (b4r _)
 have hI:=bw.fi g1 T g2 g3;have cF:(s.bZ.dE id (.st p) (xs.set i y)).af=Vx A s.bZ.af:=by
  funext j;rw[fI,Rk]
 refine⟨⟨G.S,J3 A G,C5 A G⟩,f1,b,e1,?_,Cq,?_,hz',d1,?_⟩
 .have:=(ct.of_heap hh).part (i * p.size) p.size;rwa [b5n] at this
 .unfold Inv;rw[cF];exact hI
 .intro k hk;obtain⟨k1,k2⟩:=hf1 k hk;obtain⟨q1,q2,q3,q4⟩:=g1.aP.pl id _ xs k ZX k1;refine⟨q1,q2,q3,λ j o hj oa=>?_,λ j τ ys hj oa=>?_⟩
  .have oa:ew (J3 A G j)=some k:=oa;rw[fI] at hj;by_cases xo:j=id
   .subst xo;have:J3 A G j=G.η j:=by simp[J3,A,af]
    rw[this,eH] at oa;cases oa
   .rw[b3R xo] at hj;have:J3 A G j=G.η j:=by
     have eZ:Nat.beq id j=false:=by
      cases hb:Nat.beq id j with
      | false=>rfl
      | true=>exact absurd (b3G hb).symm xo
     simp[J3,A,af,eZ]
    rw[this] at oa;exact q4 j o hj oa
  .have oa:k∈C5 A G j:=oa;rw[fI] at hj;by_cases xo:j=id
   .subst xo;have:C5 A G j=b::(f0++f2):=by simp[C5,A,af]
    rw[this] at oa;exact k2 oa
   .rw[b3R xo] at hj;have:C5 A G j=G.φ j:=by
     have eZ:Nat.beq id j=false:=by
      cases hb:Nat.beq id j with
      | false=>rfl
      | true=>exact absurd (b3G hb).symm xo
     simp[C5,A,af,eZ]
    rw[this] at oa;exact xo (g1.aP.ap j id _ _ _ _ k hj ZX oa k1)
theorem a3u(hE:bH c.P c.E)(h:Inv c G s a w){o:Oper}{vc:Vc}{s':ah}(hq:bop c.E s o=some (vc,s'))(ep:vc.ok){Q:Exit->Act->World->Prop} :
  o.wp c.P a w (λ a' w'=>∃ G',Inv c G' s' a' w') Q:=by
 unfold bop at hq;split at hq;case h_2=>cases hq
 case h_1 d hd =>
 split at hq;case h_2=>cases hq
 case h_1 oM =>
 split at hq;case h_4=>cases hq
 case h_1 T len parts bB =>
  split at hq;case h_2=>cases hq
  case h_1 τ p hT =>
  obtain⟨b,e⟩:=p;split at hq;case h_2=>cases hq
  case h_1 hlen =>
  split at hq;case h_2=>cases hq
  case h_1 xs ids lB =>
  split at hq;case h_2=>cases hq
  case h_1 hb tu =>
  simp only[b3C,b3F] at hq;obtain⟨rfl,rfl⟩:=hq;simp only[b3J] at hlen;have hl1:=b3G hlen.1;have hl2:=b4w hlen.2;subst hl1;obtain⟨h1,⟨b',e',h2⟩,i,z,h3,h4,h5,h6,h7⟩:=hE.slice hT;have Qc:=τ.size_pos;have Qb:τ.size<=100:=Ty.size_le τ;have P3:parts.size * τ.size<=16777216:=b5v (b6M hl2 Qb) (by decide);obtain⟨r,fp,h8,h9,h10,h11,h12⟩:=Ug (place:=λ i=>some (i * τ.size,τ.size)) h (λ _=>rfl) (l:=((Array.range (parts.size * τ.size)).map (λ j=>((if parts.size * τ.size=0 then #[] else z.cells:Array Value)[j % (if parts.size * τ.size=0 then #[] else z.cells:Array Value).size]!))).toList) lB (aV.Kn (bx h) _) (cX hb) (by simp);have xp:=YA lB;simp only[b3Y,b4K] at xp;rw[xp] at h10;simp only[b6E,b4I,b4i,b4N] at h8;have cH:(execOp a.eval o).run c.P w = .ok (.value (.slice (some ⟨w.heap.size,0,none⟩) parts.size parts.size)) (w.alloc (.cells r.toArray e)):=by
   have e2:(parts.map λ (i,x)=>(i,a.eval x)).toList=parts.toList.map λ p=>(p.1,a.eval p.2):=by simp
   have ie:¬ (parts.size * τ.size>2 ^ 24):=by omega
   simp only[execOp,bB,Instr.buildSlice,b4q,b4F h1,b4g,hE.sizeOf h2,b3R ie,b4s];by_cases h0:parts.size * τ.size=0
   .simp only[h0,b5y,b4q,b4s,b4g,e2] at h8 ⊢;rw[h8];simp[newRow]
   .simp only[h0,b6B,b4q,zeroValue,typeInfo,run_program,b4g,h3,h6,b4s,e2] at h8 ⊢;rw[h8];simp[newRow]
  unfold Oper.wp;rw[cH];show ∃ G',Inv c G' _ (a.put o.dst _) _;rw[hd];have bN:∀ k∈fp,k<w.heap.size:=λ k hk=>a0Z h (h12 k hk);have eQ:bR (w.alloc (.cells r.toArray e)) (xs.map τ.aQ) r fp:=bR.aR _ h9 λ k hk=>heap_alloc_old w _ k (bN k hk);refine Inv.built h (zs:=xs) (fp:=w.heap.size::fp) (l:=r) ((gB w _).a7X λ _ k=>k.elim) ⟨_,_,some ⟨w.heap.size,0,none⟩,parts.size,rfl,by rw[xp],by rw[xp];omega,by simp only[maxLen];omega,by rw[xp];omega, .inr ⟨w.heap.size,fp,e,rfl,rfl,heap_alloc_new w _,h10,eQ⟩⟩ ⟨_,_,_,rfl⟩ (List.nodup_cons.2 ⟨λ hh=>Nat.lt_irrefl _ (bN _ hh),h11⟩) (λ k hk=>?_) tu;rcases List.mem_cons.1 hk with rfl|hk
  .exact .inr ⟨b4r _,by simp⟩
  .exact .inl (h12 k hk)
 case h_2 T ad bB =>
  split at hq;case h_2=>cases hq
  case h_1 q r id i sz hT hx =>
  split at hq;case h_2=>cases hq
  case h_1 p xs aX =>
  split at hq;case h_2=>cases hq
  case h_1 y z hb hy hz =>
  split at hq;case h_2=>cases hq
  case h_1 Lc =>
  simp only[b3C,b3F] at hq;obtain⟨rfl,rfl⟩:=hq;simp only[b3J] at hb Lc;have cM:=b3G hb.1;subst cM;have hp:=bx h ad;rw[hx] at hp;obtain⟨_,b,n,cap,l,eH,hi,hp⟩:=hp;obtain⟨G1,f1,b',e1,xl,hlen,hI,hO,cU,hF⟩:=h.b0W aX hy hz hb.2 ep eH hi;simp only[b3C,b5E,b3T] at e1;subst e1;have hqs:q.size=p.size:=by
   have e:=Ow.length _ hO;rw[show (q.aQ z).size=q.size from Ty.cP (.st q) z] at e;omega
  have cH:(execOp a.eval o).run c.P w = .ok (.value (.agg ((l.drop (i * p.size)).take p.size).toArray)) w:=by
   simp only[execOp,bB,hp,b5D,b4q,mY hE hT xl (by rw[hlen];exact hqs.symm),b4g,b4s];rfl
  unfold Oper.wp;rw[cH];show ∃ G',Inv c G' _ (a.put o.dst _) _;rw[hd];have xm:∀ e∈ca (bU d) (TV.cells ⟨.st q,z⟩),(s.bZ.dE id (.st p) (xs.set i y)).af e.1=none:=λ e he=>by
   have h0:(s.af e.1).isNone=true:=b4C.1 Lc.1 e he;have eZ:e.1≠id:=λ hh=>by rw[hh,aX] at h0;cases h0
   rw[fI,b3R eZ,kG];show Option.map aD.df (s.af e.1)=none;cases hl:s.af e.1 with
   | none=>rfl
   | some o=>rw[hl] at h0;cases h0
  obtain⟨G2,lk',k1,k2,k3,k4,_⟩:=bw.Vy (v:=⟨.st q,z⟩) (id:=bU d) hI ⟨_,rfl,hO⟩ cU hF xm (cX Lc.2) (λ j hj=>by
   cases hr:c.R j with
   | none=>rfl
   | some v=>have:=h.iP j v hr;unfold bU at hj;omega)
  refine⟨G2,?_⟩;have cF:ah.af { aB:=s.bZ.aB.set d (fg (bU d) ⟨.st q,z⟩),aN:=ca (bU d) (q.cells z)++(s.bZ.dE id (.st p) (xs.set i y)).aN }=lk':=by
   funext j;rw[k1 j];exact qz _ _ j
  unfold Inv;rw[cF,show ah.sl { aB:=s.bZ.aB.set d (fg (bU d) ⟨.st q,z⟩),aN:=ca (bU d) (q.cells z)++(s.bZ.dE id (.st p) (xs.set i y)).aN }=j9 s.bZ.aB.length s.bZ.sl (some d) (fg (bU d) ⟨.st q,z⟩) from sy s.bZ.aB d _ _,
   show ({ aB:=s.bZ.aB.set d (fg (bU d) ⟨.st q,z⟩),aN:=ca (bU d) (q.cells z)++(s.bZ.dE id (.st p) (xs.set i y)).aN }:ah).aB.length=s.bZ.aB.length from by simp]
  exact bw.put k2 k4.gu
 case h_3 cl bB =>
  split at hq;case h_3=>cases hq
  case h_2 f gT =>
   split at hq;case h_1=>cases hq
   case h_2 fl _ _ =>
   split at hq;case h_2=>cases hq
   case h_1 own ids ht =>
   split at hq;case h_2=>cases hq
   case h_1 Z9 hb has =>
   split at hq;case h_2=>cases hq
   case h_1 pre res hc =>
   split at hq;case h_2=>cases hq
   case h_1 Lc =>
   simp only[Option.some.injEq,Prod.mk.injEq] at hq;obtain⟨rfl,rfl⟩:=hq;simp only[Bool.and_eq_true,List.all_eq_true] at Lc;have xm:∀ p∈bz (bU d) res,(ids.foldl ah.gone s).af p.1=none:=λ p hp=>by simpa using Lc.1 p hp
   have sM:=cX Lc.2;obtain⟨od,iW⟩:=hE.QF f Z9 pre res hc ep;obtain⟨Dp,t1,t2,t3,t4⟩:=By h ht (cX hb) (aV.pj (bx h) _);have h1:Inv c G (ids.foldl ah.gone s) a w:=Ar ids h;have hF:∀ b,b∈Dp.flatten->yR c G (ids.foldl ah.gone s).af w b:=λ b hb=>PG h (t4 b hb);obtain⟨m1,m2⟩:=xY hE h1 has t1 t2 (aV.pj (bx h1) _);generalize hs1:ids.foldl ah.gone s=s1 at *
   unfold Oper.wp;rw[gX bB gT rfl od];simp only[Oper.upon];refine (iW w (SX G s1.af) _ Dp.flatten ?_ m1 (.inr m2) t3 (λ b hb=>⟨(hF b hb).2.2.1,(hF b hb).a9h⟩)).mono ?_
   .exact h1.a5y
   .rintro e w' ⟨x,fp,rfl,hk,hO,cU,pE⟩;have hI:=Inv.over h1 hF hk;obtain⟨ys,qF,UE⟩:=Ol (c:=c) (id:=bU d) hO;have hFr:Fr c G s1.af w' fp:=λ b hb=>by
     rcases pE b hb with hi|⟨q1,q2⟩
     .obtain⟨f1,f2,f3,f4,f5⟩:=hF b hi;exact⟨f1,f2,b3X f3 hk.size,f4,f5⟩
     .refine⟨.inl (b5v h1.aR.size q1),λ hs=>?_,q2,λ i o' hi rh=>?_,λ j τ zs hj oa=>?_⟩
      .have:=h1.dH b hs;omega
      .have:=(h1.place i o' b hi rh).2.2;omega
      .have:=(h1.aP.pl j τ zs b hj oa).2.2.1;omega
    obtain⟨G',lk',k1,k2,k3,k4,_⟩:=hI.OQ (id:=bU d) qF cU hFr xm sM (λ j hj=>by
     cases hr:c.R j with
     | none=>rfl
     | some v=>have:=h.iP j v hr;unfold bU at hj;omega)
    refine⟨G',?_⟩;have cF:ah.af { aB:=s1.aB.set d (kP (bU d) res),aN:=bz (bU d) res++s1.aN }=lk':=by
     funext i;rw[k1 i];exact qz _ _ i
    unfold Inv;rw[cF,hd,show ah.sl { aB:=s1.aB.set d (kP (bU d) res),aN:=bz (bU d) res++s1.aN }=j9 s1.aB.length s1.sl (some d) (kP (bU d) res) from sy s1.aB d _ _,
     show ({ aB:=s1.aB.set d (kP (bU d) res),aN:=bz (bU d) res++s1.aN }:ah).aB.length=s1.aB.length from by simp]
    exact bw.put k2 (UE G' lk' k4)
  case h_1 gT =>
  split at hq;case h_2=>cases hq
  case h_1 T T' hTs =>
  split at hq;case h_2=>cases hq
  case h_1 τ b e WT hT =>
  have WT:=b3G WT;subst WT;split at hq;case h_2=>cases hq
  case h_1 x y dF =>
  split at hq;case h_2=>cases hq
  case h_1 xs i ys j hx hy =>
  split at hq;case h_2=>cases hq
  case h_1 hb tu =>
  simp only[b3C,b3F] at hq;obtain⟨rfl,rfl⟩:=hq;obtain⟨v,z,e1,e2,e3⟩:=VA h dF;have hb:=cX hb;rw[b4h] at hb;obtain⟨n1,n2,n3⟩:=hb;obtain⟨fx,o1,o2,o3⟩:=a8u h hx e2;obtain⟨fy,p1,p2,p3⟩:=a8u h hy e3;obtain⟨v',w',fp,l,k1,k2,k3,k4,k5,k6⟩:=a0B (c:=c) (w:=w) hE hT o1 p1 (λ k hk=>a0Z h (o3 k hk)) (λ k hk=>a0Z h (p3 k hk)) o2 p2
   (λ k hk l9=>h.iX (o3 k hk) (p3 k l9) λ x hx y hy=>n3 x hx y hy) ep o.type
  have PY:cl.argTypes = #[T,T]:=by rw[<-b4N (xs:=cl.argTypes),hTs]
  have I7:cl.args.map a.eval = #[v,z]:=by rw[<-b4N (xs:=cl.args.map a.eval),b5F,e1]
  have WZ:(execOp a.eval o)=(do let d <-resolve a.eval cl o.type;invoke d.target d.args):=by simp[execOp,bB]
  have TX:(execOp a.eval o).run c.P w=((Builtin.append_ #[T,T] o.type #[v,z]).run c.P w).andThen λ v w => .ok (.value v) w:=by
   rw[WZ];simp[resolve,gT,invoke,builtin,PY,I7]
  unfold Oper.wp;rw[TX,k1];show ∃ G',Inv c G' _ (a.put o.dst _) _;rw[hd];refine Inv.built h (zs:=xs++ys) (fp:=fp) (l:=l) (k6.a7X λ k hk=>(o3 k hk).mono λ i hi=>by simp[hi]) k2 k3 k4 (λ k hk=>?_) tu;rcases k5 k hk with hk|hk|hk
  .exact .inl ((o3 k hk).mono λ i hi=>by simp[hi])
  .exact .inl ((p3 k hk).mono λ i hi=>by simp[hi])
  .exact .inr hk
end
def b1e:Value->Nat
 | .pointer (some a)=>a.block
 | _=>0
def nu(G:Gh)(m:List (Nat×Nat))(k:Nat):Nat:=match af m k with
 | some id=>b1e (G.η id)
 | none=>0
def lQ(m m':List (Nat×Nat)):Prop:=∀ k id,af m k=some id->af m' k=some id
theorem lQ.refl(m:List (Nat×Nat)):lQ m m:=λ _ _ h=>h
theorem lQ.trans{a b c:List (Nat×Nat)}(h:lQ a b)(k:lQ b c):lQ a c:=λ i id q=>k i id (h i id q)
theorem qA{α:Type}(k:Nat)(o:α)(l:List (Nat×α))(j:Nat):af ((k,o)::l) j=if j=k then some o else af l j:=by
 have e:af ((k,o)::l) j=match Nat.beq k j with
  | true=>some o
  | false=>af l j:=rfl
 rw[e];cases hb:Nat.beq k j with
 | true=>rw[b4n (b3G hb).symm]
 | false=>rw[b3R (λ e=>by subst e;rw[Nat.beq_refl] at hb;cases hb)]
theorem Wz{m:List (Nat×Nat)}{k id:Nat}(h:af m k=none):lQ m ((k,id)::m):=λ i j q=>by
 rw[qA];by_cases hi:i=k
 .subst hi;rw[h] at q;cases q
 .rw[b3R hi];exact q
theorem XI{m:List (Nat×Nat)}{k id:Nat}:af ((k,id)::m) k=some id:=by rw[qA,b4n rfl]
section
variable {c:Ctx} {G:Gh} {s:ah} {a:Act} {w w':World}
theorem a6S{lk:Nat->Option aD}{τ:Ty}{v:AV}{x:Value}{y:τ.den}(h:jR (λ _=>none) τ v=some y)(hv:C1 c G lk w v x):Rd w G.S (τ.aQ y) [x]:=VB h hv
theorem pk{sl:Nat->AV}{n:Nat}{lk:Nat->Option aD}(h:bw c G sl n lk a w):∀ {ks:List CK} {cs:List AV} {m m':List (Nat×Nat)} {ds:List TV} {ids:List Nat} {l:List Value},de lk ks cs m=some (ds,ids,m')->ids.Nodup->aV (C1 c G lk w) cs l ->
  lQ m m'/\∃ fp,(∀ mf,lQ m' mf->lP w G.S (nu G mf) ks ds l fp)/\fp.Nodup/\∀ b∈fp,yS G lk ids b
 | [],[],m,m',ds,ids,l,ht,_,hv=>by
  simp only[de,b3C,b3F] at ht;obtain⟨rfl,rfl,rfl⟩:=ht;match l,hv with
  | [],_=>exact⟨lQ.refl _,[],λ _ _=>rfl,b4Q,by simp⟩
 | .d τ::ks,v::cs,m,m',ds,ids,l,ht,hn,hv=>by
  simp only[de] at ht;split at ht;case h_2=>cases ht
  case h_1 y hy yL =>
  split at ht;case h_2=>cases ht
  case h_1 ds1 a2r m1 hr =>
  simp only[b3C,b3F] at ht;obtain⟨rfl,rfl,rfl⟩:=ht;match l,hv with
  | x::l,hv =>
   obtain⟨e1,fp,e2,e3,e4⟩:=pk h hr hn hv.2;exact⟨e1,fp,λ mf hm=>⟨⟨rfl,yL,a6S hy hv.1⟩,e2 mf hm⟩,e3,e4⟩
 | .o τ::ks,v::cs,m,m',ds,ids,l,ht,hn,hv=>by
  simp only[de] at ht;split at ht;case h_2=>cases ht
  case h_1 y i hy yL =>
  split at ht;case h_2=>cases ht
  case h_1 ds1 a2r m1 hr =>
  simp only[b3C,b3F] at ht;obtain⟨rfl,rfl,rfl⟩:=ht;rw[b4h] at hn;obtain⟨n1,n2,n3⟩:=hn;match l,hv with
  | x::l,hv =>
   obtain⟨e1,fp,e2,e3,e4⟩:=pk h hr n2 hv.2;obtain⟨f1,o1,o2,o3⟩:=C4 h hy hv.1;refine⟨e1,f1++fp,λ mf hm=>⟨f1,fp,rfl,⟨rfl,yL,o1⟩,e2 mf hm⟩,eb o2 e3 λ b hb cz=>h.iX (o3 b hb) (e4 b cz) λ x hx y hy=>n3 x hx y hy,λ b hb=>?_⟩;rcases b3H.1 hb with hb|hb
   .exact (o3 b hb).mono λ k hk=>by simp[hk]
   .exact (e4 b hb).mono λ k hk=>by simp[hk]
 | .p j::ks,v::cs,m,m',ds,ids,l,ht,hn,hv=>by
  simp only[de] at ht;split at ht;case h_2=>cases ht
  case h_1 id =>
  match l,hv with
  | x::l,hv =>
   have key:∀ m1,de lk ks cs m1=some (ds,ids,m')->lQ m m1->af m1 j=some id->lQ m m'/\∃ fp,(∀ mf,lQ m' mf->lP w G.S (nu G mf) (.p j::ks) ds (x::l) fp)/\fp.Nodup/\∀ b∈fp,yS G lk ids b:=λ m1 hr hx hj=>by
    obtain⟨e1,fp,e2,e3,e4⟩:=pk h hr hn hv.2;refine⟨hx.trans e1,fp,λ mf hm=>?_,e3,e4⟩;have hv1:C1 c G lk w (.ptr id 0) x:=hv.1;obtain⟨b,h1,h2,_⟩:=hv1;have:nu G mf j=b:=by
     simp only[nu,hm j id (e1 j id hj),h1];rfl
    cases ds with
    | nil=>exact⟨by rw[this];exact h2,e2 mf hm⟩
    | cons d ds=>exact⟨by rw[this];exact h2,e2 mf hm⟩
   split at ht
   .rename_i i hi;split at ht
    .rename_i hb;have hb:=b3G hb;subst hb;exact key m ht (lQ.refl _) hi
    .cases ht
   .rename_i ie;exact key _ ht (Wz ie) XI
 | [],_::_,_,_,_,_,_,ht,_,_=>by simp[de] at ht
 | .d _::_,[],_,_,_,_,_,ht,_,_=>by simp[de] at ht
 | .o _::_,[],_,_,_,_,_,ht,_,_=>by simp[de] at ht
 | .p _::_,[],_,_,_,_,_,ht,_,_=>by simp[de] at ht
def b0r(lk:Nat->Option aD)(m:List (Nat×Nat))(k0 n:Nat):Prop:=∀ k,k0<=k->k<k0+n->∃ id cs,af m k=some id/\lk id=some (.box cs)
theorem yp{sl:Nat->AV}{n:Nat}{lk:Nat->Option aD}(h:bw c G sl n lk a w):∀ {sh:List (List CK)} {k:Nat} {m m':List (Nat×Nat)} {bT:List (List TV)} {ids:List Nat},je lk sh k m=some (bT,ids,m')->ids.Nodup ->
  lQ m m'/\b0r lk m' k sh.length/\∃ fp,(∀ mf,lQ m' mf->jg w G.S (nu G mf) k sh bT fp)/\fp.Nodup/\∀ b∈fp,yS G lk ids b
 | [],k,m,m',bT,ids,ht,_=>by
  simp only[je,b3C,b3F] at ht;obtain⟨rfl,rfl,rfl⟩:=ht;exact⟨lQ.refl _,λ j h1 h2=>by simp at h2;omega,[],λ _ _=>rfl,b4Q,by simp⟩
 | ks::sh,k,m,m',bT,ids,ht,hn=>by
  simp only[je] at ht;split at ht;case h_2=>cases ht
  case h_1 id aX =>
  split at ht;case h_2=>cases ht
  case h_1 cs kr =>
  split at ht;case h_2=>cases ht
  case h_1 ds i m1 hr =>
  split at ht;case h_2=>cases ht
  case h_1 b1T a2r m2 hr2 =>
  simp only[b3C,b3F] at ht;obtain⟨rfl,rfl,rfl⟩:=ht;rw[b4h] at hn;obtain⟨n1,n2,n3⟩:=hn;obtain⟨b,l,t,q1,q2,q3⟩:=h.aN id _ kr;obtain⟨e1,f1,e2,e3,e4⟩:=pk h hr n1 q3;obtain⟨g1,g0,f2,g2,g3,g4⟩:=yp h hr2 n2;refine⟨e1.trans g1,λ j h1 h2=>?_,f1++f2,λ mf hm=>⟨l,t,f1,f2,rfl,?_,e2 mf (g1.trans hm),g2 mf hm⟩,eb e3 g3 λ b hb cz=>h.iX (e4 b hb) (g4 b cz) λ x hx y hy=>n3 x hx y hy,λ b hb=>?_⟩
  .by_cases hj:j=k
   .subst hj;exact⟨id,cs,(e1.trans g1) j id aX,kr⟩
   .exact g0 j (by omega) (by simp at h2;omega)
  .have:nu G mf k=b:=by
    simp only[nu,hm k id ((e1.trans g1) k id aX),q1];rfl
   rw[this];exact q2
  .rcases b3H.1 hb with hb|hb
   .exact (e4 b hb).mono λ k hk=>by simp[hk]
   .exact (g4 b hb).mono λ k hk=>by simp[hk]
theorem zL:∀ {fl:List (Option Nat)} {vs:List AV} {m m':List (Nat×Nat)},jq fl vs m=some m'->lQ m m'/\∀ (i k:Nat),fl[i]?=some (some k)->∃ id,vs[i]?=some (AV.ptr id 0)/\af m' k=some id
 | [],[],m,m',h=>by
  simp only[jq,b3C] at h;subst h;exact⟨lQ.refl _,λ i k q=>by simp at q⟩
 | none::fl,v::vs,m,m',h=>by
  obtain⟨h1,h2⟩:=zL (fl:=fl) (vs:=vs) h;refine⟨h1,λ i k q=>?_⟩;cases i with
  | zero=>simp at q
  | succ i=>exact h2 i k (by simpa using q)
 | some k::fl,v::vs,m,m',h=>by
  simp only[jq] at h;split at h;case h_2=>cases h
  case h_1 id =>
  have key:∀ m1,lQ m m1->af m1 k=some id->jq fl vs m1=some m'->lQ m m'/\∀ (i k':Nat),(some k::fl)[i]?=some (some k')->∃ dx,(AV.ptr id 0::vs)[i]?=some (AV.ptr dx 0)/\af m' k'=some dx:=λ m1 e1 e2 e3=>by
   obtain⟨h1,h2⟩:=zL e3;refine⟨e1.trans h1,λ i k' q=>?_⟩;cases i with
   | zero =>
    simp only[b7j,b3C] at q;subst q;exact⟨id,rfl,h1 k id e2⟩
   | succ i=>exact h2 i k' (by simpa using q)
  split at h
  .rename_i i hi;split at h
   .rename_i hb;have hb:=b3G hb;subst hb;exact key m (lQ.refl _) hi h
   .cases h
  .rename_i ie;exact key _ (Wz ie) XI h
 | [],_::_,_,_,h=>by simp[jq] at h
 | some _::_,[],_,_,h=>by simp[jq] at h
 | none::_,[],_,_,h=>by simp[jq] at h
theorem qC{lk:Nat->Option aD}{ids:List Nat}{id:Nat}{o:aD}(h:DN lk ids id=some o):lk id=some o/\id∉ids/\∃ cs,o = .box cs:=by
 unfold DN at h;split at h
 .cases h
 .rename_i hc;split at h
  .rename_i cs kr;simp only[Option.some.injEq] at h;subst h;exact⟨kr,by simpa using hc,cs,rfl⟩
  .cases h
theorem a6l(h1:Inv c G s a w){ids:List Nat}{X:Nat->Prop}(WU:∀ b,X b->¬ St c G.S b)(I0:∀ id cs b,DN s.af ids id=some (.box cs)->ew (G.η id)=some b->¬ X b)
  {τ:Ty} {v:AV} {x:Value} {y:τ.den} (hy:deref (DN s.af ids) τ v=some y) (hx:VR c G s.af w v x) (B:Nat->Nat):a1z w G.S X B (.ref ⟨τ,y⟩) x:=by
 have hd:=IL (S:=G.S) h1 (lk':=DN s.af ids) (λ id o ho=>(qC ho).1) (λ τ v x y h hv=>D3 (λ id e τ xs q=>by obtain⟨_,_,cs,e⟩:=qC q;cases e) (λ id τ xs q=>by obtain⟨_,_,cs,e⟩:=qC q;cases e) h hv) hy hx;obtain⟨b,o,cs,k1,k2,k3,k4⟩:=hd;refine⟨b,o,cs,k1,k2,?_,k3,k4⟩;unfold deref at hy;split at hy;case h_2=>cases hy
 case h_1 u hu =>
 cases v with
 | dc z =>
  obtain⟨b',o',dA,q1,q2,_⟩:=hx;rw[k1] at q1;simp only[b6p,b3C,b5E] at q1;obtain⟨rfl,_⟩:=q1;exact λ hb=>WU _ hb q2
 | ptr id off =>
  obtain⟨b',q1,q2,_⟩:=hx;rw[k1] at q2;simp only[b6p,b3C,b5E] at q2;obtain⟨rfl,_⟩:=q2;simp only[uQ] at hu;split at hu
  .rename_i cs2 kr;exact I0 id cs2 _ kr (by rw[q1];rfl)
  .cases hu
 | eB id i off =>
  simp only[uQ] at hu;split at hu
  .rename_i hr;obtain⟨_,_,cs,e⟩:=qC hr;cases e
  .cases hu
 | _=>simp[uQ] at hu
theorem JX(hE:bH c.P c.E)(h1:Inv c G s a w){ids:List Nat}{mf:List (Nat×Nat)}{X:Nat->Prop}(WU:∀ b,X b->¬ St c G.S b)(I0:∀ id cs b,DN s.af ids id=some (.box cs)->ew (G.η id)=some b->¬ X b){lk0:Nat->Option aD} :
  ∀ {fl:List (Option Nat)} {Ts:List TypeId} {vs vs0:List AV} {xs:List Value} {Z9:List Arg},uF c.E (DN s.af ids) fl Ts vs=some Z9->aV (VR c G s.af w) vs xs->aV (VR c G lk0 w) vs0 xs ->
   (∀ (i k:Nat),fl[i]?=some (some k)->∃ id,vs0[i]?=some (AV.ptr id 0)/\af mf k=some id)->aV (a1z w G.S X (nu G mf)) Z9 xs
 | [],[],[],vs0,xs,Z9,h,hv,_,_=>by
  simp only[uF,b3C] at h;subst h;match xs,hv with
  | [],_=>trivial
 | some k::fl,T::Ts,v::vs,vs0,xs,Z9,h,hv,Qe,hb=>by
  simp only[uF] at h;split at h;case h_2=>cases h
  case h_1 r hr =>
  simp only[b3C] at h;subst h;match xs,vs0,hv,Qe with
  | x::xs,v0::vs0,hv,Qe =>
   obtain⟨id,q1,q2⟩:=hb 0 k rfl;simp only[List.getElem?_cons_zero,Option.some.injEq] at q1;subst q1;have hp:VR c G lk0 w (.ptr id 0) x:=Qe.1;obtain⟨b,k1,k2,_⟩:=hp;refine⟨?_,JX hE h1 WU I0 hr hv.2 Qe.2 λ i k' q=>by simpa using hb (i+1) k' (by simpa using q)⟩;show x = .pointer (some ⟨nu G mf k,0,none⟩);simp only[nu,q2,k1];exact k2
  | x::xs,[],_,Qe=>exact Qe.elim
 | none::fl,T::Ts,v::vs,vs0,xs,Z9,h,hv,Qe,hb=>by
  simp only[uF] at h;split at h;case h_2=>cases h
  case h_1 z hz =>
  split at h;case h_2=>cases h
  case h_1 r Uz hr =>
  simp only[b3C] at h;subst h;match xs,vs0,hv,Qe with
  | x::xs,v0::vs0,hv,Qe =>
   refine⟨?_,JX hE h1 WU I0 hr hv.2 Qe.2 λ i k' q=>by simpa using hb (i+1) k' (by simpa using q)⟩;have b2v:∀ id e τ xs,DN s.af ids id≠some (.row e τ xs):=λ id e τ xs q=>by obtain⟨_,_,cs,e⟩:=qC q;cases e
   have b2w:∀ id τ xs,DN s.af ids id≠some (.aw τ xs):=λ id τ xs q=>by obtain⟨_,_,cs,e⟩:=qC q;cases e
   unfold V8 at hz;split at hz
   .rename_i τ q hT;split at hz
    .rename_i y hy;simp only[b3C] at hz;subst hz;exact D3 b2v b2w hy hv.1
    .cases hz
   .split at hz
    .rename_i τ hT;split at hz
     .rename_i y hy;simp only[b3C] at hz;subst hz;exact a6l h1 WU I0 hy hv.1 _
     .cases hz
    .split at hz
     .simp only[b3C] at hz;subst hz;cases Uz
     .split at hz
      .rename_i f;simp only[b3C] at hz;subst hz;exact hv.1
      .cases hz
  | x::xs,[],_,Qe=>exact Qe.elim
 | [],_::_,_,_,_,_,h,_,_,_=>by simp[uF] at h
 | [],[],_::_,_,_,_,h,_,_,_=>by simp[uF] at h
 | some _::_,[],_,_,_,_,h,_,_,_=>by simp[uF] at h
 | none::_,[],_,_,_,_,h,_,_,_=>by simp[uF] at h
 | some _::_,_::_,[],_,_,_,h,_,_,_=>by simp[uF] at h
 | none::_,_::_,[],_,_,_,h,_,_,_=>by simp[uF] at h
def dD:List CK->List TV->List TV
 | .d _::ks,_::ds=>dD ks ds
 | .o _::ks,v::ds=>v::dD ks ds
 | .p _::ks,ds=>dD ks ds
 | _,_=>[]
def lN:List CK->List Value->List Value
 | .o _::ks,x::xs=>x::lN ks xs
 | _::ks,_::xs=>lN ks xs
 | _,_=>[]
theorem lP.yQ{S:Nat->Prop}{B:Nat->Nat}:∀ {ks:List CK} {ds:List TV} {l:List Value} {fp:List Nat},lP w S B ks ds l fp->cZ w ((dD ks ds).map TV.aQ) (lN ks l) fp/\(∀ u∈dD ks ds,u.τ.agg=false)/\(dD ks ds).length=(lN ks l).length
 | [],[],[],fp,h=>⟨⟨rfl,h⟩,by simp[dD],rfl⟩
 | .d τ::ks,v::ds,x::xs,fp,h=>by
  obtain⟨_,h2⟩:=h;obtain⟨k1,k2,k3⟩:=lP.yQ h2;exact⟨k1,k2,k3⟩
 | .o τ::ks,v::ds,x::xs,fp,h=>by
  obtain⟨f1,f2,rfl,⟨e,h1,h2⟩,h3⟩:=h;obtain⟨k1,k2,k3⟩:=lP.yQ h3;refine⟨⟨x,lN ks xs,f1,f2,rfl,rfl,h2,k1⟩,λ u hu=>?_,by simp[dD,lN,k3]⟩;rcases b3Z.1 hu with rfl|hu
  .rw[e];exact h1
  .exact k2 u hu
 | .p j::ks,ds,x::xs,fp,h=>by
  have h:x = .pointer (some ⟨B j,0,none⟩)/\lP w S B ks ds xs fp:=by cases ds<;>exact h
  obtain⟨k1,k2,k3⟩:=lP.yQ h.2;refine⟨?_,?_,?_⟩<;>cases ds<;>first|exact k1|exact k2|exact k3
 | [],_::_,_,_,h=>h.elim
 | [],[],_::_,_,h=>h.elim
 | .d _::_,[],_,_,h=>by cases h
 | .o _::_,[],_,_,h=>by cases h
 | .d _::_,_::_,[],_,h=>by cases h
 | .o _::_,_::_,[],_,h=>by cases h
 | .p _::_,ds,[],_,h=>by cases ds<;>cases h
theorem Ho:∀ (n:Nat) (a b:List TV),ca n (a++b)=ca n a++ca (n+a.length) b
 | n,[],b=>by simp[ca]
 | n,u::a,b=>by
  have:=Ho (n+1) a b;simp only[b4U,ca,this,b4H,b3P];rw[show n+1+a.length=n+(a.length+1) by omega]
theorem uD:∀ (n:Nat) (a b:List TV),cd n (a++b)=cd n a++cd (n+a.length) b
 | n,[],b=>by simp[cd]
 | n,u::a,b=>by
  have:=uD (n+1) a b;simp only[b4U,cd,this,b3P];rw[show n+1+a.length=n+(a.length+1) by omega]
theorem cZ.append:∀ {a b:List D} {x y:List Value} {f g:List Nat},cZ w a x f->cZ w b y g->cZ w (a++b) (x++y) (f++g)
 | [],b,x,y,f,g,h,k=>by
  obtain⟨rfl,rfl⟩:=h;exact k
 | d::a,b,x,y,f,g,h,k=>by
  obtain⟨v,r,f1,f2,rfl,rfl,h3,h4⟩:=h;exact⟨v,r++y,f1,f2++g,rfl,by simp,h3,h4.append k⟩
theorem so{m:List (Nat×Nat)}{S:Nat->Prop}{B:Nat->Nat}{G':Gh}{lk':Nat->Option aD}(hS:∀ b,S b->G'.S b)(hB:∀ j id,af m j=some id->G'.η id = .pointer (some ⟨B j,0,none⟩)/\fZ (lk' id)=true) :
  ∀ {ks:List CK} {cs:List AV} {ds:List TV} {n n':Nat} {r:List AV} {os:List (Nat×aD)} {l:List Value} {fp:List Nat},cn m ks cs ds n=some (r,os,n')->lP w S B ks ds l fp->aV (C1 c G' lk' w) (cd n (dD ks ds)) (lN ks l) ->
   aV (C1 c G' lk' w) r l
 | [],[],[],n,n',r,os,l,fp,h,hb,hc=>by
  simp only[cn,b3C,b3F] at h;obtain⟨rfl,rfl,rfl⟩:=h;match l,hb with
  | [],_=>trivial
 | .d τ::ks,c0::cs,v::ds,n,n',r,os,l,fp,h,hb,hc=>by
  simp only[cn] at h;split at h;case h_2=>cases h
  case h_1 hv =>
  split at h;case h_2=>cases h
  case h_1 r1 os1 n1 hr =>
  simp only[b3C,b3F] at h;obtain⟨rfl,rfl,rfl⟩:=h;match l,hb with
  | x::l,hb =>
   obtain⟨⟨e,h1,h2⟩,h3⟩:=hb;exact⟨⟨by rw[e];exact h1,Rd.aR hS (λ _ _=>rfl) _ h2⟩,so hS hB hr h3 hc⟩
 | .o τ::ks,c0::cs,v::ds,n,n',r,os,l,fp,h,hb,hc=>by
  simp only[cn] at h;split at h;case h_2=>cases h
  case h_1 hv =>
  split at h;case h_2=>cases h
  case h_1 r1 os1 n1 hr =>
  simp only[b3C,b3F] at h;obtain⟨rfl,rfl,rfl⟩:=h;match l,hb with
  | x::l,hb =>
   obtain⟨f1,f2,rfl,⟨e,h1,h2⟩,h3⟩:=hb;exact⟨hc.1,so hS hB hr h3 hc.2⟩
 | .p j::ks,c0::cs,ds,n,n',r,os,l,fp,h,hb,hc=>by
  simp only[cn] at h;split at h;case h_2=>cases h
  case h_1 id =>
  split at h;case h_2=>cases h
  case h_1 i hi =>
  split at h;case h_2=>cases h
  case h_1 r1 os1 n1 hbe hr =>
  have hbe:=b3G hbe;subst hbe;simp only[b3C,b3F] at h;obtain⟨rfl,rfl,rfl⟩:=h;match l,hb with
  | x::l,hb =>
   have hb:x = .pointer (some ⟨B j,0,none⟩)/\lP w S B ks ds l fp:=by cases ds<;>exact hb
   have hc:aV (C1 c G' lk' w) (cd n (dD ks ds)) (lN ks l):=by cases ds<;>exact hc
   obtain⟨q1,q2⟩:=hB j i hi;exact⟨⟨B j,q1,hb.1,q2⟩,so hS hB hr hb.2 hc⟩
  | [],hb=>cases ds<;>cases hb
 | [],_::_,_,_,_,_,_,_,_,h,_,_=>by simp[cn] at h
 | [],[],_::_,_,_,_,_,_,_,h,_,_=>by simp[cn] at h
 | .d _::_,[],_,_,_,_,_,_,_,h,_,_=>by simp[cn] at h
 | .o _::_,[],_,_,_,_,_,_,_,h,_,_=>by simp[cn] at h
 | .p _::_,[],ds,_,_,_,_,_,_,h,_,_=>by cases ds<;>simp[cn] at h
 | .d _::_,_::_,[],_,_,_,_,_,_,h,_,_=>by simp[cn] at h
 | .o _::_,_::_,[],_,_,_,_,_,_,h,_,_=>by simp[cn] at h
theorem zg{m:List (Nat×Nat)}:∀ {ks:List CK} {cs:List AV} {ds:List TV} {n n':Nat} {r:List AV} {os:List (Nat×aD)},cn m ks cs ds n=some (r,os,n')->os=ca n (dD ks ds)/\n'=n+(dD ks ds).length
 | [],[],[],n,n',r,os,h=>by
  simp only[cn,b3C,b3F] at h;obtain⟨rfl,rfl,rfl⟩:=h;exact⟨rfl,rfl⟩
 | .d τ::ks,c0::cs,v::ds,n,n',r,os,h=>by
  simp only[cn] at h;split at h;case h_2=>cases h
  case h_1 hv =>
  split at h;case h_2=>cases h
  case h_1 r1 os1 n1 hr =>
  simp only[b3C,b3F] at h;obtain⟨rfl,rfl,rfl⟩:=h;obtain⟨e1,e2⟩:=zg hr;exact⟨e1,e2⟩
 | .o τ::ks,c0::cs,v::ds,n,n',r,os,h=>by
  simp only[cn] at h;split at h;case h_2=>cases h
  case h_1 hv =>
  split at h;case h_2=>cases h
  case h_1 r1 os1 n1 hr =>
  simp only[b3C,b3F] at h;obtain⟨rfl,rfl,rfl⟩:=h;obtain⟨e1,e2⟩:=zg hr;exact⟨by rw[e1];rfl,by rw[e2];simp[dD];omega⟩
 | .p j::ks,c0::cs,ds,n,n',r,os,h=>by
  simp only[cn] at h;split at h;case h_2=>cases h
  case h_1 id =>
  split at h;case h_2=>cases h
  case h_1 i hi =>
  split at h;case h_2=>cases h
  case h_1 r1 os1 n1 hbe hr =>
  simp only[b3C,b3F] at h;obtain⟨rfl,rfl,rfl⟩:=h;obtain⟨e1,e2⟩:=zg hr;cases ds<;>exact⟨e1,e2⟩
 | [],_::_,_,_,_,_,_,h=>by simp[cn] at h
 | [],[],_::_,_,_,_,_,h=>by simp[cn] at h
 | .d _::_,[],_,_,_,_,_,h=>by simp[cn] at h
 | .o _::_,[],_,_,_,_,_,h=>by simp[cn] at h
 | .p _::_,[],ds,_,_,_,_,h=>by cases ds<;>simp[cn] at h
 | .d _::_,_::_,[],_,_,_,_,h=>by simp[cn] at h
 | .o _::_,_::_,[],_,_,_,_,h=>by simp[cn] at h
theorem Inv.a8I{s1:ah}(h1:Inv c G s1 a w){S' X:Nat->Prop}{Jm:Nat->Option aD}(hk:bE X w w')(hX:∀ b,X b->c.w0.heap.size<=b\/c.X b)(hXS:∀ b,X b->¬ G.S b)
  (hS:∀ b,G.S b->S' b) (a2g:∀ b,S' b->b<w'.heap.size) (a3J:∀ b,b<w.heap.size->¬ X b->(S' b↔G.S b))
  (l5:∀ id,(Jm id=s1.af id/\∀ o b,s1.af id=some o->ew (G.η id)=some b->¬ X b) \/
   ∃ cs dA,s1.af id=some (.box cs)/\Jm id=some (.box dA)/\(∀ b,ew (G.η id)=some b->¬ S' b)/\∃ b l t,G.η id = .pointer (some ⟨b,0,none⟩)/\w'.heap[b]?=some (.cells l.toArray t (0,0))/\∀ (G:Gh) (lk:Nat->Option aD),aV (C1 c G lk w') dA l)
  (HO:∀ id τ xs b,s1.af id=some (.aw τ xs)->b∈G.φ id->¬ X b):bw c ⟨S',G.η,G.φ⟩ s1.sl s1.aB.length Jm a w':=by
 have e9:∀ id,eF (s1.af id) (Jm id):=λ id=>by
  rcases l5 id with ⟨e,_⟩|⟨cs,dA,e1,e2,_⟩
  .rw[e];exact eF.refl _
  .rw[e1,e2];exact⟨λ _=>rfl,(λ e τ xs q=>by cases q),(λ q=>by cases q),λ q=>by cases q⟩
 have cv:∀ b,St c G.S b->w'.heap[b]?=w.heap[b]?:=λ b hb=>by
  rcases hb with hb|hb
  .exact hk.block b (h1.dH b hb) λ q=>hXS b q hb
  .exact hk.block b (b3X hb.1 h1.aR.size) λ q=>(hX b q).elim (λ q=>by omega) hb.2.1
 have hold:∀ id o,Jm id=some o->∃ o',s1.af id=some o'/\(∀ τ xs,o = .aw τ xs->o' = .aw τ xs):=λ id o ho=>by
  rcases l5 id with ⟨e,_⟩|⟨cs,dA,e1,e2,_⟩
  .exact⟨o,by rw[<-e];exact ho,λ τ xs q=>q⟩
  .rw[e2] at ho;simp only[b3C] at ho;exact⟨_,e1,λ τ xs q=>by rw[q] at ho;cases ho⟩
 have HN:∀ id τ xs,Jm id=some (.aw τ xs)->s1.af id=some (.aw τ xs):=λ id τ xs ht=>by
  obtain⟨o',q1,q2⟩:=hold id _ ht;rw[q1,q2 τ xs rfl]
 exact {
  defers:=h1.defers,size:=h1.size
  aR:=h1.aR.trans hk λ i hi hy=>(hX i hy).elim (λ q=>by omega) id
  jP:=h1.jP
  eu:=λ b hb hx=>(a3J b (b3X hb h1.aR.size) λ q=>(hX b q).elim (λ q=>by omega) hx).trans (h1.eu b hb hx)
  sX:=λ b hb=>hS b (h1.sX b hb)
  dH:=a2g
  aB:=λ i=>(h1.aB i).mono (λ id _=>⟨e9 id,rfl⟩) hS cv
  aN:=λ id o ho=>by
   rcases l5 id with ⟨e,e'⟩|⟨cs,dA,e1,e2,_,b,l,t,e3,e4,e5⟩
   .rw[e] at ho;exact (h1.aN id o ho).mono rfl (λ b hb=>hk.block b (h1.place id o b ho hb).2.2 (e' o b ho hb)) (λ j _=>⟨e9 j,rfl⟩) hS cv
   .rw[e2] at ho;simp only[b3C] at ho;subst ho;exact⟨b,l,t,e3,e4,e5 _ _⟩
  place:=λ id o b ho hb=>by
   obtain⟨o',q1,_⟩:=hold id o ho;obtain⟨p1,p2,p3⟩:=h1.place id o' b q1 hb;refine⟨p1,?_,b3X p3 hk.size⟩;rcases l5 id with ⟨e,e'⟩|⟨cs,dA,e1,e2,e3,_⟩
   .exact λ q=>p2 ((a3J b p3 (e' o' b q1 hb)).1 q)
   .exact e3 b hb
  apart:=λ id dx o o' b ho cN hb cz=>by
   obtain⟨p,q1,_⟩:=hold id o ho;obtain⟨p',q2,_⟩:=hold dx o' cN;exact h1.apart id dx p p' b q1 q2 hb cz
  aP:={
   tr:=λ id τ xs ht=>(h1.aP.tr id τ xs (HN id τ xs ht)).aR λ b hb=>hk.block b (h1.aP.pl id τ xs b (HN id τ xs ht) hb).2.2.1 (HO id τ xs b (HN id τ xs ht) hb)
   nd:=λ id τ xs ht=>h1.aP.nd id τ xs (HN id τ xs ht)
   pl:=λ id τ xs b ht hb=>by
    obtain⟨p1,p2,p3,p4⟩:=h1.aP.pl id τ xs b (HN id τ xs ht) hb;refine⟨p1,λ q=>p2 ((a3J b p3 (HO id τ xs b (HN id τ xs ht) hb)).1 q),b3X p3 hk.size,λ i o ho=>?_⟩;obtain⟨o',q1,_⟩:=hold i o ho;exact p4 i o' q1
   ap:=λ id dx τ bj xs cV b ht UD=>h1.aP.ap id dx τ bj xs cV b (HN id τ xs ht) (HN dx bj cV UD) }
  root:=λ id v hr ht=>h1.root id v hr (by
   match hl:Jm id,ht with
   | some (.aw τ xs),_=>rw[HN id τ xs hl];rfl)
  iP:=h1.iP
  dw:=λ id v hr ht=>h1.dw id v hr (by
   rcases l5 id with ⟨e,_⟩|⟨cs,dA,e1,e2,_⟩
   .rw[<-e];exact ht
   .rw[e1];rfl)
  fh:=h1.fh }
theorem bw.b2K{sl:Nat->AV}{n:Nat}{lk lk2:Nat->Option aD}(h:bw c G sl n lk a w)(l5:∀ id,lk2 id=lk id\/∃ cs dA,lk id=some (.box cs)/\lk2 id=some (.box dA)/\∃ b l t,G.η id = .pointer (some ⟨b,0,none⟩)/\w.heap[b]?=some (.cells l.toArray t (0,0))/\aV (C1 c G lk2 w) dA l) :
  bw c G sl n lk2 a w:=by
 have e9:∀ id,eF (lk id) (lk2 id):=λ id=>by
  rcases l5 id with e|⟨cs,dA,e1,e2,_⟩
  .rw[e];exact eF.refl _
  .rw[e1,e2];exact⟨λ _=>rfl,(λ e τ xs q=>by cases q),(λ q=>by cases q),λ q=>by cases q⟩
 have hold:∀ id o,lk2 id=some o->∃ o',lk id=some o'/\(∀ τ xs,o = .aw τ xs->o' = .aw τ xs):=λ id o ho=>by
  rcases l5 id with e|⟨cs,dA,e1,e2,_⟩
  .exact⟨o,by rw[<-e];exact ho,λ τ xs q=>q⟩
  .rw[e2] at ho;simp only[b3C] at ho;exact⟨_,e1,λ τ xs q=>by rw[q] at ho;cases ho⟩
 have HN:∀ id τ xs,lk2 id=some (.aw τ xs)->lk id=some (.aw τ xs):=λ id τ xs ht=>by
  obtain⟨o',q1,q2⟩:=hold id _ ht;rw[q1,q2 τ xs rfl]
 exact {
  defers:=h.defers,size:=h.size,aR:=h.aR,jP:=h.jP,eu:=h.eu,sX:=h.sX,dH:=h.dH
  aB:=λ i=>(h.aB i).mono (λ id _=>⟨e9 id,rfl⟩) (λ _ q=>q) (λ _ _=>rfl)
  aN:=λ id o ho=>by
   rcases l5 id with e|⟨cs,dA,e1,e2,b,l,t,e3,e4,e5⟩
   .rw[e] at ho;exact (h.aN id o ho).mono rfl (λ _ _=>rfl) (λ j _=>⟨e9 j,rfl⟩) (λ _ q=>q) (λ _ _=>rfl)
   .rw[e2] at ho;simp only[b3C] at ho;subst ho;exact⟨b,l,t,e3,e4,e5⟩
  place:=λ id o b ho hb=>by
   obtain⟨o',q1,_⟩:=hold id o ho;exact h.place id o' b q1 hb
  apart:=λ id dx o o' b ho cN hb cz=>by
   obtain⟨p,q1,_⟩:=hold id o ho;obtain⟨p',q2,_⟩:=hold dx o' cN;exact h.apart id dx p p' b q1 q2 hb cz
  aP:={
   tr:=λ id τ xs ht=>h.aP.tr id τ xs (HN id τ xs ht)
   nd:=λ id τ xs ht=>h.aP.nd id τ xs (HN id τ xs ht)
   pl:=λ id τ xs b ht hb=>by
    obtain⟨p1,p2,p3,p4⟩:=h.aP.pl id τ xs b (HN id τ xs ht) hb;refine⟨p1,p2,p3,λ i o ho=>?_⟩;obtain⟨o',q1,_⟩:=hold i o ho;exact p4 i o' q1
   ap:=λ id dx τ bj xs cV b ht UD=>h.aP.ap id dx τ bj xs cV b (HN id τ xs ht) (HN dx bj cV UD) }
  root:=λ id v hr ht=>h.root id v hr (by
   match hl:lk2 id,ht with
   | some (.aw τ xs),_=>rw[HN id τ xs hl];rfl)
  iP:=h.iP
  dw:=λ id v hr ht=>h.dw id v hr (by
   rcases l5 id with e|⟨cs,dA,e1,e2,_⟩
   .rw[<-e];exact ht
   .rw[e1];rfl)
  fh:=h.fh }
theorem Jy{m:List (Nat×Nat)}{S:Nat->Prop}{B:Nat->Nat}{lk:Nat->Option aD}:∀ {sh:List (List CK)} {k:Nat} {bT:List (List TV)} {n:Nat} {bs ts:List (Nat×aD)} {fp:List Nat},uA lk m sh k bT n=some (bs,ts)->jg w S B k sh bT fp ->
  ∃ yQ xs,ts=ca n yQ/\cZ w (yQ.map TV.aQ) xs fp/\(∀ u∈yQ,u.τ.agg=false) /\
   (∀ j,k<=j->j<k+sh.length->∃ (id:Nat) (dA:List AV) (l:List Value) (t:TypeId),af m j=some id/\(id,aD.box dA)∈bs/\w.heap[B j]?=some (.cells l.toArray t (0,0))/\l.length=dA.length) /\
   (∀ p∈bs,∃ (j:Nat) (dA:List AV) (l:List Value) (t:TypeId),k<=j/\j<k+sh.length/\af m j=some p.1/\p.2 = .box dA/\w.heap[B j]?=some (.cells l.toArray t (0,0))/\l.length=dA.length /\
    ∀ (G':Gh) (lk':Nat->Option aD),(∀ b,S b->G'.S b)->(∀ j id,af m j=some id->G'.η id = .pointer (some ⟨B j,0,none⟩)/\fZ (lk' id)=true)->aV (C1 c G' lk' w) (cd n yQ) xs->aV (C1 c G' lk' w) dA l)
 | [],k,[],n,bs,ts,fp,h,hb=>by
  simp only[uA,b3C,b3F] at h;obtain⟨rfl,rfl⟩:=h;exact⟨[],[],rfl,⟨rfl,hb⟩,by simp,λ j h1 h2=>by simp at h2;omega,by simp⟩
 | ks::sh,k,ds::bT,n,bs,ts,fp,h,hb=>by
  simp only[uA] at h;split at h;case h_2=>cases h
  case h_1 id aX =>
  split at h;case h_2=>cases h
  case h_1 cs kr =>
  split at h;case h_2=>cases h
  case h_1 r os n1 hr =>
  split at h;case h_2=>cases h
  case h_1 bs1 ts1 hr2 =>
  simp only[b3C,b3F] at h;obtain⟨rfl,rfl⟩:=h;obtain⟨l,t,f1,f2,rfl,hw,hB,hbs⟩:=hb;obtain⟨e1,e2⟩:=zg hr;obtain⟨yQ,xs,q1,q2,q3,q4,q5⟩:=Jy hr2 hbs;obtain⟨o1,o2,o3⟩:=hB.yQ;have Cr:∀ {G':Gh} {lk':Nat->Option aD},aV (C1 c G' lk' w) (cd n (dD ks ds++yQ)) (lN ks l++xs)->aV (C1 c G' lk' w) (cd n (dD ks ds)) (lN ks l)/\aV (C1 c G' lk' w) (cd n1 yQ) xs:=λ {G' lk'} q=>by
   rw[uD,<-e2] at q;have hl:(cd n (dD ks ds)).length=(lN ks l).length:=by
    rw[<-o3];have:∀ (us:List TV) (n:Nat),(cd n us).length=us.length:=λ us=>by
     induction us with
     | nil=>intro n;rfl
     | cons u us ih=>intro n;simp[cd,ih]
    exact this _ _
   have h1:=q.take (cd n (dD ks ds)).length;have h2:=q.drop (cd n (dD ks ds)).length;rw[b5P,hl,b5P] at h1;rw[b5U,hl,b5U] at h2;exact⟨h1,h2⟩
  have hrl:l.length=r.length:=by
   have:∀ {ks:List CK} {cs:List AV} {ds:List TV} {n n':Nat} {r:List AV} {os:List (Nat×aD)} {l:List Value} {fp:List Nat},cn m ks cs ds n=some (r,os,n')->lP w S B ks ds l fp->l.length=r.length:=by
    intro ks;induction ks with
    | nil =>
     intro cs ds n n' r os l fp h hb;cases cs<;>cases ds<;>simp[cn] at h;obtain⟨rfl,_⟩:=h;cases l with
     | nil=>rfl
     | cons x l=>cases hb
    | cons k0 ks ih =>
     intro cs ds n n' r os l fp h hb;cases l with
     | nil=>cases k0<;>cases ds<;>cases hb
     | cons x l =>
      cases k0 with
      | d τ =>
       cases cs with
       | nil=>simp[cn] at h
       | cons c0 cs =>
        cases ds with
        | nil=>cases hb
        | cons v ds =>
         simp only[cn] at h;split at h;case h_2=>cases h
         case h_1 hv =>
         split at h;case h_2=>cases h
         case h_1 r1 os1 n1 hr =>
         simp only[b3C,b3F] at h;obtain⟨rfl,rfl,rfl⟩:=h;obtain⟨_,h2⟩:=hb;simp[ih hr h2]
      | o τ =>
       cases cs with
       | nil=>simp[cn] at h
       | cons c0 cs =>
        cases ds with
        | nil=>cases hb
        | cons v ds =>
         simp only[cn] at h;split at h;case h_2=>cases h
         case h_1 hv =>
         split at h;case h_2=>cases h
         case h_1 r1 os1 n1 hr =>
         simp only[b3C,b3F] at h;obtain⟨rfl,rfl,rfl⟩:=h;obtain⟨_,_,_,_,h2⟩:=hb;simp[ih hr h2]
      | p j =>
       cases cs with
       | nil=>cases ds<;>simp[cn] at h
       | cons c0 cs =>
        have hb:x = .pointer (some ⟨B j,0,none⟩)/\lP w S B ks ds l fp:=by cases ds<;>exact hb
        simp only[cn] at h;split at h;case h_2=>cases h
        case h_1 id =>
        split at h;case h_2=>cases h
        case h_1 i hi =>
        split at h;case h_2=>cases h
        case h_1 r1 os1 n1 hbe hr =>
        simp only[b3C,b3F] at h;obtain⟨rfl,rfl,rfl⟩:=h;simp[ih hr hb.2]
   exact this hr hB
  refine⟨dD ks ds++yQ,lN ks l++xs,by rw[Ho,e1,q1,e2],by rw[b5B];exact o1.append q2,λ u hu=>(b3H.1 hu).elim (o2 u) (q3 u),λ j h1 h2=>?_,λ p hp=>?_⟩
  .by_cases hj:j=k
   .subst hj;exact⟨id,r,l,t,aX,b5Z ..,hw,hrl⟩
   .obtain⟨dx,dA,l',t',g1,g2,g3,g4⟩:=q4 j (by omega) (by simp at h2;omega);exact⟨dx,dA,l',t',g1,b5m _ g2,g3,g4⟩
  .rcases b3Z.1 hp with rfl|hp
   .exact⟨k,r,l,t,b4r _,by simp,aX,rfl,hw,hrl,λ G' lk' h1 h2 h3=>so h1 h2 hr hB (Cr h3).1⟩
   .obtain⟨j,dA,l',t',g1,g2,g3,g4,g5,g7,g6⟩:=q5 p hp;exact⟨j,dA,l',t',by omega,by simp;omega,g3,g4,g5,g7,λ G' lk' h1 h2 h3=>g6 G' lk' h1 h2 (Cr h3).2⟩
 | [],_,_::_,_,_,_,_,h,_=>by simp[uA] at h
 | _::_,_,[],_,_,_,_,h,_=>by simp[uA] at h
theorem wo{α:Type}:∀ {l:List (Nat×α)} {k:Nat},(∀ p∈l,p.1≠k)->af l k=none
 | [],k,_=>rfl
 | (j,o)::l,k,h=>by
  rw[qA,b3R (λ e=>h (j,o) (by simp) e.symm)];exact wo λ p hp=>h p (by simp[hp])
theorem Jq:∀ (ids:List Nat) (l:List (Nat×aD)) (i:Nat),af (gJ ids l) i=if i∈ids then none else af l i
 | [],l,i=>by simp[gJ]
 | id::r,l,i=>by
  rw[gJ,Jq r,eC];by_cases h1:i∈r
  .simp[h1]
  .by_cases h2:i=id
   .simp[h1,h2]
   .simp[h1,h2]
theorem Ki{m:List (Nat×Nat)}(h2:(m.map (·.2)).Nodup){j k id:Nat}(hj:af m j=some id)(hk:af m k=some id):j=k:=by
 have e1:=fc hj;have e2:=fc hk;have:(j,id)=(k,id):=by
  clear hj hk;induction m with
  | nil=>cases e1
  | cons p m ih =>
   simp only[b4A,b4x] at h2;rcases b3Z.1 e1 with q1|e1
   .rcases b3Z.1 e2 with q2|e2
    .rw[q1,q2]
    .exact absurd (b3N.2 ⟨(k,id),e2,by rw[<-q1]⟩) h2.1
   .rcases b3Z.1 e2 with q2|e2
    .exact absurd (b3N.2 ⟨(j,id),e1,by rw[<-q2]⟩) h2.1
    .exact ih h2.2 e1 e2
 exact congrArg Prod.fst this
theorem DB{m:List (Nat×Nat)}{k id:Nat}(h:af m k=some id):id∈m.map (·.2):=b3N.2 ⟨_,fc h,rfl⟩
theorem a5X{m:List (Nat×Nat)}{n:Nat}(h1:(m.map (·.1)).Nodup)(hl:m.length=n)(hk:∀ k,k<n->∃ id,af m k=some id):∀ p∈m,p.1<n:=by
 have vS:List.range n ⊆ m.map (·.1):=λ k l9=>by
  obtain⟨id,q⟩:=hk k (List.mem_range.1 l9);exact b3N.2 ⟨_,fc q,rfl⟩
 have R3:(m.map (·.1)) ⊆ List.range n:=by
  intro x hx;refine b6t λ hn=>?_;have h3:(x::List.range n).Nodup:=b4x.2 ⟨hn,b6C⟩;have h4:(x::List.range n) ⊆ m.map (·.1):=λ y hy=>(b3Z.1 hy).elim (λ e=>e ▸ hx) (λ hy=>vS hy);have:=b6a h3 h4;simp at this;omega
 exact λ p hp=>List.mem_range.1 (R3 (b3N.2 ⟨p,hp,rfl⟩))
theorem a4x(hE:bH c.P c.E)(h:Inv c G s a w){o:Oper}{vc:Vc}{s':ah}(hq:sop c.E s o=some (vc,s'))(ep:vc.ok){Q:Exit->Act->World->Prop} :
  o.wp c.P a w (λ a' w'=>∃ G',Inv c G' s' a' w') Q:=by
 unfold sop at hq;split at hq;case h_2=>cases hq
 case h_1 d hd =>
 split at hq;case h_2=>cases hq
 case h_1 cl bB =>
 split at hq;case h_2=>cases hq
 case h_1 f gT =>
 split at hq;case h_2=>cases hq
 case h_1 sk hsk =>
 split at hq;case h_2=>cases hq
 case h_1 m0 hm0 =>
 split at hq;case h_2=>cases hq
 case h_1 bT ids m hm =>
 split at hq;case h_2=>cases hq
 case h_1 a9U =>
 split at hq;case h_2=>cases hq
 case h_1 Z9 has =>
 split at hq;case h_2=>cases hq
 case h_1 pre res eP hc =>
 split at hq;case h_2=>cases hq
 case h_1 bs ts sN =>
 split at hq;case h_2=>cases hq
 case h_1 Lc =>
 simp only[Option.some.injEq,Prod.mk.injEq] at hq;obtain⟨rfl,rfl⟩:=hq;simp only[Bool.and_eq_true] at a9U;obtain⟨W3,YX,YY,hn4⟩:=a9U;have W3:=cX W3;have YX:=cX YX;have YY:=cX YY;have hn4:=Nat.eq_of_beq_eq_true hn4;simp only[Bool.and_eq_true,List.all_eq_true] at Lc;have xm:∀ p∈bz (bU d) res++ts,(ids.foldl ah.gone s).af p.1=none:=λ p hp=>by simpa using Lc.1 p hp
 have sM:=cX Lc.2;obtain⟨od,iW⟩:=hE.a0p f sk Z9 bT pre res eP hsk hc ep;obtain⟨_,a3L⟩:=zL hm0;obtain⟨hx0,a0T,fa,hBR,a2k,b2n⟩:=yp h hm W3;have hBR:=hBR m (lQ.refl m);have a3L:∀ (i k:Nat),sk.ps[i]?=some (some k)->∃ id,(cl.args.toList.map s.eval)[i]?=some (AV.ptr id 0)/\af m k=some id:=λ i k q=>by
  obtain⟨id,q1,q2⟩:=a3L i k q;exact⟨id,q1,hx0 k id q2⟩
 have h1:Inv c G (ids.foldl ah.gone s) a w:=Ar ids h;have hF:∀ b,b∈fa->yR c G (ids.foldl ah.gone s).af w b:=λ b hb=>PG h (b2n b hb);have F4:∀ k,k<sk.sh.length->∃ (id:Nat) (cs:List AV),af m k=some id/\(ids.foldl ah.gone s).af id=some (.box cs):=λ k hk=>by
  obtain⟨id,cs,q1,q2⟩:=a0T k (Nat.zero_le _) (by simpa using hk);refine⟨id,?_⟩;have aX:id∉ids:=λ hi=>by
   have:∀ {sh:List (List CK)} {k:Nat} {m m':List (Nat×Nat)} {bT:List (List TV)} {ids:List Nat},je s.af sh k m=some (bT,ids,m')->∀ i∈ids,∀ cs,s.af i≠some (.box cs):=by
    have xl:∀ {ks:List CK} {cs:List AV} {m m':List (Nat×Nat)} {ds:List TV} {ids:List Nat},de s.af ks cs m=some (ds,ids,m')->∀ i∈ids,∀ cs,s.af i≠some (.box cs):=by
     intro ks;induction ks with
     | nil =>
      intro cs m m' ds ids ht;cases cs<;>simp[de] at ht;obtain⟨_,rfl,_⟩:=ht;simp
     | cons k0 ks ih =>
      intro cs m m' ds ids ht;cases cs with
      | nil=>cases k0<;>simp[de] at ht
      | cons v cs =>
       cases k0 with
       | d τ =>
        simp only[de] at ht;split at ht;case h_2=>cases ht
        case h_1 y hy yL =>
        split at ht;case h_2=>cases ht
        case h_1 ds1 a2r m1 hr =>
        simp only[b3C,b3F] at ht;obtain⟨_,rfl,_⟩:=ht;exact ih hr
       | o τ =>
        simp only[de] at ht;split at ht;case h_2=>cases ht
        case h_1 y i hy yL =>
        split at ht;case h_2=>cases ht
        case h_1 ds1 a2r m1 hr =>
        simp only[b3C,b3F] at ht;obtain⟨_,rfl,_⟩:=ht;intro j hj cs2;rcases b3H.1 hj with hj|hj
        .unfold dY at hy;split at hy
         .split at hy
          .simp only[b3C,b3F] at hy;obtain⟨_,rfl⟩:=hy;cases hj
          .cases hy
         .split at hy
          .simp only[b3C,b3F] at hy;obtain⟨_,rfl⟩:=hy;cases hj
          .cases hy
         .split at hy
          .rename_i hl;split at hy
           .simp only[b3C,b3F] at hy;obtain⟨_,rfl⟩:=hy;simp only[b4m] at hj;subst hj;rw[hl];simp
           .cases hy
          .cases hy
         .split at hy
          .rename_i hl;split at hy
           .simp only[b3C,b3F] at hy;obtain⟨_,rfl⟩:=hy;simp only[b4m] at hj;subst hj;rw[hl];simp
           .cases hy
          .cases hy
         .cases hy
        .exact ih hr j hj cs2
       | p j =>
        simp only[de] at ht;split at ht;case h_2=>cases ht
        case h_1 id =>
        split at ht
        .split at ht
         .exact ih ht
         .cases ht
        .exact ih ht
    intro sh;induction sh with
    | nil =>
     intro k m m' bT ids ht;simp only[je,b3C,b3F] at ht;obtain⟨_,rfl,_⟩:=ht;simp
    | cons ks sh ih =>
     intro k m m' bT ids ht;simp only[je] at ht;split at ht;case h_2=>cases ht
     case h_1 id aX =>
     split at ht;case h_2=>cases ht
     case h_1 cs kr =>
     split at ht;case h_2=>cases ht
     case h_1 ds i m1 hr =>
     split at ht;case h_2=>cases ht
     case h_1 b1T a2r m2 hr2 =>
     simp only[b3C,b3F] at ht;obtain⟨_,rfl,_⟩:=ht;intro j hj cs2;rcases b3H.1 hj with hj|hj
     .exact xl hr j hj cs2
     .exact ih hr2 j hj cs2
   exact this hm id hi cs q2
  have:∀ (ids:List Nat) (s:ah) (cs:List AV),id∉ids->s.af id=some (.box cs)->∃ dA,(ids.foldl ah.gone s).af id=some (.box dA):=by
   intro ids;induction ids with
   | nil=>intro s cs _ hs;exact⟨cs,hs⟩
   | cons i ids ih =>
    intro s cs hi hs;have eZ:id≠i:=λ e=>hi (by simp[e]);refine ih (s.gone i) (cs.map (AV.kill i)) (λ q=>hi (by simp[q])) ?_;rw[Gq,b3R eZ,hs];rfl
  obtain⟨dA,q3⟩:=this ids s cs aX q2;exact⟨dA,q1,q3⟩
 generalize hs1:ids.foldl ah.gone s=s1 at *
 have eH:∀ k id,af m k=some id->k<sk.sh.length->G.η id = .pointer (some ⟨nu G m k,0,none⟩)/\ew (G.η id)=some (nu G m k):=λ k id hk bN=>by
  obtain⟨dx,cs,q1,q2⟩:=F4 k bN;rw[hk] at q1;simp only[b3C] at q1;subst q1;obtain⟨b,l,t,k1,_⟩:=h1.aN id _ q2;have:nu G m k=b:=by
   simp only[nu,hk,k1];rfl
  rw[this,k1];exact⟨rfl,rfl⟩
 have kX:=a5X YX hn4 (λ k hk=>by obtain⟨id,_,q,_⟩:=F4 k hk;exact⟨id,q⟩);have a7y:∀ id,id∈m.map (·.2)->∃ k cs,k<sk.sh.length/\af m k=some id/\s1.af id=some (.box cs):=λ id aX=>by
  obtain⟨⟨k,dx⟩,hp,rfl⟩:=b3N.1 aX;have hk:=kX _ hp;have hl:=zd YX hp;obtain⟨id2,cs,q1,q2⟩:=F4 k hk;rw[hl] at q1;simp only[b3C] at q1;subst q1;exact⟨k,cs,hk,hl,q2⟩
 have P7:∀ j k,j<sk.sh.length->k<sk.sh.length->nu G m j=nu G m k->j=k:=λ j k hj hk e=>by
  obtain⟨idj,csj,j1,j2⟩:=F4 j hj;obtain⟨idk,csk,k1,k2⟩:=F4 k hk;have:=h1.apart idj idk _ _ (nu G m j) j2 k2 (eH j idj j1 hj).2 (by rw[e];exact (eH k idk k1 hk).2);subst this;exact Ki YY j1 k1
 have a4W:∀ k,k<sk.sh.length->(c.w0.heap.size<=nu G m k\/c.X (nu G m k))/\¬ G.S (nu G m k)/\nu G m k<w.heap.size:=λ k hk=>by
  obtain⟨id,cs,k1,k2⟩:=F4 k hk;exact h1.place id _ _ k2 (eH k id k1 hk).2
 have b2m:∀ b∈fa,∀ k,k<sk.sh.length->nu G m k≠b:=λ b hb k hk e=>by
  obtain⟨id,cs,k1,k2⟩:=F4 k hk;exact (hF b hb).2.2.2.1 id _ k2 (by rw[<-e];exact (eH k id k1 hk).2)
 have hXo:∀ b,BX sk.sh.length (nu G m) fa b->(c.w0.heap.size<=b\/c.X b)/\¬ G.S b:=λ b hb=>by
  rcases hb with hb|⟨k,hk,rfl⟩
  .exact⟨(hF b hb).1,(hF b hb).2.1⟩
  .exact⟨(a4W k hk).1,(a4W k hk).2.1⟩
 have WU:∀ b,BX sk.sh.length (nu G m) fa b->¬ St c G.S b:=λ b hb q=>by
  obtain⟨q1,q2⟩:=hXo b hb;rcases q with q|⟨q,q3,_⟩
  .exact q2 q
  .exact q1.elim (λ q=>by omega) q3
 have I0:∀ id o b,id∉m.map (·.2)->s1.af id=some o->ew (G.η id)=some b->¬ BX sk.sh.length (nu G m) fa b:=λ id o b aX ho hb q=>by
  rcases q with q|⟨k,hk,rfl⟩
  .exact (hF b q).2.2.2.1 id _ ho hb
  .obtain⟨dx,cs,k1,k2⟩:=F4 k hk;have:=h1.apart id dx _ _ _ ho k2 hb (eH k dx k1 hk).2;subst this;exact aX (DB k1)
 have b2b:∀ id τ xs b,s1.af id=some (.aw τ xs)->b∈G.φ id->¬ BX sk.sh.length (nu G m) fa b:=λ id τ xs b ht hb q=>by
  rcases q with q|⟨k,hk,rfl⟩
  .exact (hF b q).2.2.2.2 id τ xs ht hb
  .obtain⟨dx,cs,k1,k2⟩:=F4 k hk;exact (h1.aP.pl id τ xs _ ht hb).2.2.2 dx _ k2 (eH k dx k1 hk).2
 have dF:=JX hE h1 (mf:=m) WU (λ id cs b ho hb=>I0 id _ b (qC ho).2.1 (qC ho).1 hb) (lk0:=s.af) has (aV.pj (bx h1) cl.args.toList) (aV.pj (bx h) cl.args.toList) a3L;unfold Oper.wp;rw[gX bB gT rfl od];simp only[Oper.upon];refine (iW w G.S (nu G m) _ fa h1.sOk hBR a2k (λ b hb=>⟨(hF b hb).2.2.1,(hF b hb).2.1,b2m b hb⟩) (λ k hk=>⟨(a4W k hk).2.2,(a4W k hk).2.1⟩) P7 dF).mono ?_;rintro e w' ⟨x,S',fp,Pz,rfl,hk,hS1,hS2,hS3,hO,hB',cU,pE,hBS⟩;obtain⟨yQ,xs,e1,e2,e3,e4,e5⟩:=Jy sN hB';let Jm:Nat->Option aD:=λ i=>match af bs i with
  | some (.box cs)=>some (.box (List.replicate cs.length .any))
  | _=>s1.af i
 have a0U:∀ id,id∈m.map (·.2)->∃ (k:Nat) (dA:List AV),k<sk.sh.length/\af m k=some id/\af bs id=some (.box dA)/\∃ (l:List Value) (t:TypeId),w'.heap[nu G m k]?=some (.cells l.toArray t (0,0))/\l.length=dA.length:=λ id aX=>by
  obtain⟨k,cs,k1,k2,k3⟩:=a7y id aX;obtain⟨dx,dA,l,t,g1,g2,g3,g4⟩:=e4 k (Nat.zero_le _) (by simpa using k1);rw[k2] at g1;simp only[Option.some.injEq] at g1;subst g1;have cF:∃ o,af bs id=some o:=by
   cases hl:af bs id with
   | some o=>exact⟨o,rfl⟩
   | none =>
    exfalso;have:∀ {l:List (Nat×aD)} {k:Nat},af l k=none->∀ p∈l,p.1≠k:=by
     intro l;induction l with
     | nil=>intro k _ p hp;cases hp
     | cons q l ih =>
      intro k hq p hp;obtain⟨j,o⟩:=q;rw[qA] at hq;split at hq
      .cases hq
      .rename_i eZ;rcases b3Z.1 hp with rfl|hp
       .exact λ e=>eZ e.symm
       .exact ih hq p hp
    exact this hl _ g2 rfl
  obtain⟨o,ho⟩:=cF;obtain⟨j,cs2,l2,t2,_,j2,j3,j4,j5,j6,_⟩:=e5 _ (fc ho);have:j=k:=Ki YY j3 k2;subst this;simp only at j4;subst j4;exact⟨j,cs2,k1,k2,ho,l2,t2,j5,j6⟩
 have a9T:∀ id,id∉m.map (·.2)->af bs id=none:=λ id aX=>wo λ p hp e=>by
  obtain⟨j,_,_,_,_,_,j3,_⟩:=e5 p hp;exact aX (e ▸ DB j3)
 have ZZ:∀ id,id∉m.map (·.2)->Jm id=s1.af id:=λ id aX=>by simp only[Jm,a9T id aX]
 have a7w:∀ id k dA,af m k=some id->af bs id=some (.box dA)->Jm id=some (.box (List.replicate dA.length .any)):=λ id k dA _ hb=>by simp only[Jm,hb]
 have hA:bw c ⟨S',G.η,G.φ⟩ s1.sl s1.aB.length Jm a w':=by
  refine Inv.a8I h1 (X:=BX sk.sh.length (nu G m) fa) hk (λ b hb=>(hXo b hb).1) (λ b hb=>(hXo b hb).2) hS1 hS2 hS3 (λ id=>?_) b2b;by_cases aX:id∈m.map (·.2)
  .obtain⟨k,dA,q1,q2,q3,l,t,q4,q5⟩:=a0U id aX;obtain⟨_,cs,_,_,q6⟩:=a7y id aX;obtain⟨g1,g2⟩:=eH k id q2 q1;refine .inr ⟨cs,_,q6,a7w id k dA q2 q3,λ b hb=>?_,nu G m k,l,t,g1,q4,λ G' lk'=>?_⟩
   .rw[g2] at hb;simp only[b3C] at hb;subst hb;exact hBS k q1
   .have:∀ (l:List Value),aV (C1 c G' lk' w') (List.replicate l.length .any) l:=λ l=>by
     induction l with
     | nil=>exact trivial
     | cons x l ih=>exact⟨U,ih⟩
    rw[<-q5];exact this l
  .exact .inl ⟨ZZ id aX,λ o b ho hb=>I0 id o b aX ho hb⟩
 have a7C:∀ p∈bz (bU d) res++ts,p.1∉m.map (·.2):=λ p hp aX=>by
  obtain⟨_,cs,_,_,q⟩:=a7y p.1 aX;rw[xm p hp] at q;cases q
 rw[b4h] at cU;obtain⟨nd1,nd2,nd3⟩:=cU;rw[b5B,b4h] at sM;obtain⟨dd1,dd2,dd3⟩:=sM;have hFr:Fr c ⟨S',G.η,G.φ⟩ Jm w' (fp++Pz):=λ b hb=>by
  obtain⟨q1,q2,q3⟩:=pE b hb;have rh:∀ i o,Jm i=some o->ew (G.η i)≠some b:=λ i o cE e=>by
   by_cases aX:i∈m.map (·.2)
   .obtain⟨k,dA,g1,g2,_⟩:=a0U i aX;rw[(eH k i g2 g1).2] at e;simp only[b3C] at e;exact q3 k g1 e
   .rw[ZZ i aX] at cE;rcases q1 with q1|⟨q1,_⟩
    .exact (hF b q1).2.2.2.1 i o cE e
    .have:=(h1.place i o b cE e).2.2;omega
  have hbt:∀ j τ zs,Jm j=some (.aw τ zs)->b∉G.φ j:=λ j τ zs hj oa=>by
   by_cases aX:j∈m.map (·.2)
   .obtain⟨k,dA,g1,g2,g3,_⟩:=a0U j aX;rw[a7w j k dA g2 g3] at hj;cases hj
   .rw[ZZ j aX] at hj;rcases q1 with q1|⟨q1,_⟩
    .exact (hF b q1).2.2.2.2 j τ zs hj oa
    .have:=(h1.aP.pl j τ zs b hj oa).2.2.1;omega
  rcases q1 with q1|⟨q1,q1'⟩
  .exact⟨(hF b q1).1,q2,b3X (hF b q1).2.2.1 hk.size,rh,hbt⟩
  .exact⟨.inl (b5v h1.aR.size q1),q2,q1',rh,hbt⟩
 have IZ:∀ j,bU d<=j->c.R j=none:=λ j hj=>by
  cases hr:c.R j with
  | none=>rfl
  | some v=>have:=h.iP j v hr;unfold bU at hj;omega
 obtain⟨ys,qF,UE⟩:=Ol (c:=c) (id:=bU d) hO;obtain⟨G1,E1,k1,k2,k3,k4,k5⟩:=hA.OQ (id:=bU d) qF nd1 (λ b hb=>hFr b (by simp[hb])) (λ p hp=>by
  rw[ZZ p.1 (a7C p (by simp[hp]))];exact xm p (by simp[hp])) dd1 IZ
 rw[e1] at dd2 dd3 xm a7C;obtain⟨G2,lk2,p1,p2,p3,p4,_⟩:=k2.D1 (us:=yQ) (cs:=xs) (fp:=Pz) (id:=bU d+60) e3 e2 nd2 (k5 Pz (λ b hb=>hFr b (by simp[hb])) λ b hb cz=>nd3 b cz b hb rfl) (λ p hp=>by
  rw[k1 p.1];unfold gC;rw[wo (l:=bz (bU d) res) λ q hq e=>dd3 q.1 (List.mem_map.2 ⟨q,hq,rfl⟩) p.1 (List.mem_map.2 ⟨p,hp,rfl⟩) e];simp only;rw[ZZ p.1 (a7C p (by simp[hp]))];exact xm p (by simp[hp])) dd2 (λ j hj=>IZ j (by omega))
 have b2C:VR c G2 lk2 w' (kP (bU d) res) x:=UE G2 lk2 (k4.imp λ u y _ hy=>hy.ext p3);have EO:=bw.put (d:=some d) p2 b2C;have a9W:∀ i,ah.af { aB:=s1.aB.set d (kP (bU d) res),aN:=bs++(bz (bU d) res++ts)++gJ (m.map (·.2)) s1.aN } i=gC bs (gC (bz (bU d) res) (gC ts (λ i=>if i∈m.map (·.2) then none else s1.af i))) i:=λ i=>by
  show af (bs++(bz (bU d) res++ts)++gJ (m.map (·.2)) s1.aN) i=_;rw[b4H,qz,show af (bz (bU d) res++ts++gJ (m.map (·.2)) s1.aN)=gC (bz (bU d) res) (gC ts (λ i=>if i∈m.map (·.2) then none else s1.af i)) from funext λ j=>by
   rw[b4H,qz,show af (ts++gJ (m.map (·.2)) s1.aN)=gC ts (λ i=>if i∈m.map (·.2) then none else s1.af i) from funext λ j=>by
    rw[qz,show af (gJ (m.map (·.2)) s1.aN)=(λ i=>if i∈m.map (·.2) then none else s1.af i) from funext λ j=>Jq _ _ j]]]
 generalize cv:({ aB:=s1.aB.set d (kP (bU d) res),aN:=bs++(bz (bU d) res++ts)++gJ (m.map (·.2)) s1.aN }:ah)=s2 at *
 have b2r:∀ i,lk2 i=gC ts (gC (bz (bU d) res) Jm) i:=λ i=>by
  rw[p1 i,e1];unfold gC;rw[k1 i];rfl
 have Z0:∀ i,i∉m.map (·.2)->s2.af i=lk2 i:=λ i aX=>by
  rw[a9W i,b2r i];unfold gC;rw[a9T i aX,ZZ i aX];simp only[if_neg aX];cases hV:af (bz (bU d) res) i with
  | none=>rfl
  | some o =>
   rw[wo (l:=ts) λ q hq e=>dd3 i (b3N.2 ⟨(i,o),fc hV,rfl⟩) q.1 (b3N.2 ⟨q,by rw[<-e1];exact hq,rfl⟩) e.symm]
 have eY:∀ i,i∈m.map (·.2)->∃ k dA,k<sk.sh.length/\af m k=some i/\af bs i=some (.box dA)/\lk2 i=some (.box (List.replicate dA.length .any))/\s2.af i=some (.box dA)/\G2.η i = .pointer (some ⟨nu G m k,0,none⟩):=λ i aX=>by
  obtain⟨k,dA,q1,q2,q3,_⟩:=a0U i aX;have hA':=a7w i k dA q2 q3;obtain⟨r1,r2,_⟩:=(k3.trans p3).old i _ hA';refine⟨k,dA,q1,q2,q3,r1,?_,by rw[r2];exact (eH k i q2 q1).1⟩;rw[a9W i];unfold gC;rw[q3]
 have e9:∀ i,eF (lk2 i) (s2.af i):=λ i=>by
  by_cases aX:i∈m.map (·.2)
  .obtain⟨k,dA,_,_,_,q4,q5,_⟩:=eY i aX;rw[q4,q5];exact⟨λ _=>rfl,(λ e τ xs q=>by cases q),(λ q=>by cases q),λ q=>by cases q⟩
  .rw[Z0 i aX];exact eF.refl _
 have b0Q:=bw.b2K (lk2:=s2.af) EO (λ i=>by
  by_cases aX:i∈m.map (·.2)
  .obtain⟨k,dA,q1,q2,q3,q4,q5,q6⟩:=eY i aX;obtain⟨j,cs2,l,t,_,j2,j3,j4,j5,_,j7⟩:=e5 _ (fc q3);have:j=k:=Ki YY j3 q2;subst this;simp only[aD.box.injEq] at j4;subst j4;refine .inr ⟨_,_,q4,q5,nu G m j,l,t,q6,j5,?_⟩;refine j7 G2 s2.af (λ b hb=>by rw[p3.S,k3.S];exact hb) (λ j' id I3=>?_) (p4.imp λ u y _ hy=>hy.mono (λ i _=>⟨e9 i,rfl⟩) (λ _ q=>q) (λ _ _=>rfl));obtain⟨k',b3x,g1,g2,_,_,g5,g6⟩:=eY id (DB I3);have:j'=k':=Ki YY I3 g2;subst this;exact⟨g6,by rw[g5];rfl⟩
  .exact .inl (Z0 i aX))
 refine⟨G2,?_⟩;unfold Inv;rw[hd,<-cv,show ah.sl { aB:=s1.aB.set d (kP (bU d) res),aN:=bs++(bz (bU d) res++ts)++gJ (m.map (·.2)) s1.aN }=j9 s1.aB.length s1.sl (some d) (kP (bU d) res) from sy s1.aB d _ _,
  show ({ aB:=s1.aB.set d (kP (bU d) res),aN:=bs++(bz (bU d) res++ts)++gJ (m.map (·.2)) s1.aN }:ah).aB.length=s1.aB.length from by simp,cv]
 exact b0Q
end
theorem ED(id:Nat)(u:AV):∀ l:List AV,AV.WQ id u l=l.map (AV.KW id u)
 | []=>rfl
 | v::r=>congrArg _ (ED id u r)
section
variable {c:Ctx} {G:Gh} {s:ah} {a:Act} {w w':World}
theorem a8h{lk:Nat->Option aD}{id:Nat}{e:TypeId}{τ:Ty}{xs:List τ.den}(ho:OR c G lk w id (.row e τ xs)){S':Nat->Prop}(hS:∀ b,G.S b->S' b)(hb:∀ b,ew (G.η id)=some b->S' b) :
  Rd w S' (Ty.aQ (.slice τ) xs) [G.η id]:=by
 obtain⟨l,h1,h2,h3⟩:=ho;exact a0f h1 h2 h3 hS hb
theorem C1.KW{lk lk':Nat->Option aD}{id:Nat}{e:TypeId}{τ:Ty}{xs:List τ.den}(aX:lk id=some (.row e τ xs))(ho:OR c G lk w id (.row e τ xs)){S':Nat->Prop}(hS:∀ b,G.S b->S' b)(hb:∀ b,ew (G.η id)=some b->S' b)
  (cF:∀ j,j≠id->eF (lk j) (lk' j)) {v:AV} {x:Value} (h:C1 c G lk w v x):C1 c ⟨S',G.η,G.φ⟩ lk' w (AV.KW id (.aI ⟨.slice τ,xs⟩) v) x:=by
 have aR:(∀ j,v.refs j=true->j≠id)->C1 c ⟨S',G.η,G.φ⟩ lk' w v x:=λ hr=>h.mono (λ j hj=>⟨cF j (hr j hj),rfl⟩) hS (λ _ _=>rfl);cases v with
 | row i =>
  simp only[AV.KW];split
  .rename_i hi;have hi:=b3G hi;subst hi;refine⟨rfl,?_⟩;rw[h.1];exact a8h ho hS hb
  .rename_i hi;refine aR λ j hj=>?_;simp only[AV.refs] at hj;have:=b3G hj;intro e;subst this e;simp at hi
 | eB i k off =>
  simp only[AV.KW];split
  .trivial
  .rename_i hi;refine aR λ j hj=>?_;simp only[AV.refs] at hj;have:=b3G hj;intro e;subst this e;simp at hi
 | ptr i off =>
  refine aR λ j hj=>?_;simp only[AV.refs] at hj;have:=b3G hj;intro e;subst this e;obtain⟨b,_,_,h3⟩:=h;rw[aX] at h3;cases h3
 | agg cs=>exact h.elim
 | iR cs=>exact h.elim
 | di f cs=>exact h.elim
 | iC v=>exact aR λ j hj=>by cases hj
 | any=>trivial
 | eh=>exact h
 | aI u=>exact aR λ j hj=>by cases hj
 | nil=>exact aR λ j hj=>by cases hj
 | dc u=>exact aR λ j hj=>by cases hj
 | fn f=>exact aR λ j hj=>by cases hj
 | mp i =>
  refine aR λ j hj=>?_;simp only[AV.refs] at hj;have:=b3G hj;intro e;subst this e;have h3:=h.2.1;rw[aX] at h3;cases h3
 | aw i =>
  refine aR λ j hj=>?_;simp only[AV.refs] at hj;have:=b3G hj;intro e;subst this e;have h1:=h.1;rw[aX] at h1;cases h1
 | sub i k o z =>
  refine aR λ j hj=>?_;simp only[AV.refs] at hj;have:=b3G hj;intro e;subst this e;have h1:=h.1;rw[aX] at h1;cases h1
 | eU i k o z =>
  refine aR λ j hj=>?_;simp only[AV.refs] at hj;have:=b3G hj;intro e;subst this e;have h1:=h.1;rw[aX] at h1;cases h1
theorem EC(id:Nat)(u:AV):∀ l:List AV,AV.WO id u l=l.map (AV.HE id u)
 | []=>rfl
 | v::r=>congrArg _ (EC id u r)
theorem C1.HE{lk lk':Nat->Option aD}{id:Nat}{τ:Ty}{xs:List τ.den}(aX:lk id=some (.aw τ xs))(hT:il w (G.η id) τ xs (G.φ id)){S':Nat->Prop}(hS:∀ b,G.S b->S' b)(hb:∀ b∈G.φ id,S' b)
  (cF:∀ j,j≠id->eF (lk j) (lk' j)) {v:AV} {x:Value} (h:C1 c G lk w v x):C1 c ⟨S',G.η,G.φ⟩ lk' w (AV.HE id (.aI ⟨.slice τ,xs⟩) v) x:=by
 have aR:(∀ j,v.refs j=true->j≠id)->C1 c ⟨S',G.η,G.φ⟩ lk' w v x:=λ hr=>h.mono (λ j hj=>⟨cF j (hr j hj),rfl⟩) hS (λ _ _=>rfl);have other:∀ i:Nat,(Nat.beq i id=false\/cx (lk i)=false)->(∀ j,v.refs j=true->Nat.beq i j=true)->C1 c ⟨S',G.η,G.φ⟩ lk' w v x:=λ i hi hr=>aR λ j hj e=>by
  have q:=b3G (hr j hj);subst q;subst e;rcases hi with hi|hi
  .simp at hi
  .rw[aX] at hi;cases hi
 cases v with
 | aw i =>
  simp only[AV.HE];split
  .rename_i hi;have hi:=b3G hi;subst hi;obtain⟨_,l,h2,_⟩:=h;exact⟨rfl,hT.rd h2 hb⟩
  .rename_i hi;exact other i (.inl hi) λ j hj=>hj
 | sub i k o z =>
  simp only[AV.HE];split
  .trivial
  .rename_i hi;exact other i (.inl hi) λ j hj=>hj
 | eU i k o z =>
  simp only[AV.HE];split
  .trivial
  .rename_i hi;exact other i (.inl hi) λ j hj=>hj
 | row i=>exact other i (.inr (uY h.2.1)) λ j hj=>hj
 | eB i k off =>
  refine other i (.inr ?_) λ j hj=>hj;obtain⟨b,n,cap,e,bj,cV,_,h3,_⟩:=h;rw[h3];rfl
 | ptr i off =>
  refine other i (.inr ?_) λ j hj=>hj;obtain⟨b,_,_,h3⟩:=h;match hl:lk i,h3 with
  | some (.box _),_=>rfl
 | mp i=>exact other i (.inr (Mf h.2.1)) λ j hj=>hj
 | agg cs=>exact h.elim
 | iR cs=>exact h.elim
 | di f cs=>exact h.elim
 | iC v=>exact aR λ j hj=>by cases hj
 | any=>trivial
 | eh=>exact h
 | aI u=>exact aR λ j hj=>by cases hj
 | nil=>exact aR λ j hj=>by cases hj
 | dc u=>exact aR λ j hj=>by cases hj
 | fn f=>exact aR λ j hj=>by cases hj
structure Fx(F:AV->AV):Prop where
 aI:∀ v,F (.aI v) = .aI v
 agg:∀ cs,F (.agg cs) = .agg (cs.map F)
 iR:∀ cs,F (.iR cs) = .iR (cs.map F)
 di:∀ f cs,F (.di f cs) = .di f (cs.map F)
 any:F .any = .any
 aw:∀ i,(∃ u,F (.aw i) = .aI u)\/F (.aw i) = .aw i
 dc:∀ v,F (.dc v) = .dc v
section
variable {F:AV->AV} {G':Gh} {lk lk':Nat->Option aD} (hF:Fx F) (hC:∀ v x,C1 c G lk w v x->C1 c G' lk' w (F v) x) (hS:∀ b,G.S b->G'.S b)
include hF hC hS
theorem CR.fx{v:AV}{x:Value}(h:CR c G lk w v x):CR c G' lk' w (F v) x:=by
 rcases h.inv with ⟨u,rfl,h1⟩|⟨cs,l,rfl,rfl,h1⟩|h1
 .rw[hF.aI];exact eK.mono h1 hS (λ _ _=>rfl)
 .rw[hF.agg];exact⟨l,rfl,aV.ej _ (h1.imp λ u y _ hy=>hC u y hy)⟩
 .exact (hC _ _ h1).a3b
theorem VR.fx{v:AV}{x:Value}(h:VR c G lk w v x):VR c G' lk' w (F v) x:=by
 have key:C1 c G lk w v x->VR c G' lk' w (F v) x:=λ q=>(hC v x q).gu;cases v with
 | aI u=>rw[hF.aI];exact eK.mono h hS (λ _ _=>rfl)
 | agg cs =>
  obtain⟨l,rfl,h2⟩:=h;rw[hF.agg];exact⟨l,rfl,aV.ej _ (h2.imp λ u y _ hy=>hC u y hy)⟩
 | iR vs =>
  obtain⟨l,rfl,h2⟩:=h;rw[hF.iR];refine⟨l,rfl,aV.ej _ (h2.imp λ u y _ hy=>?_)⟩;cases u with
  | any=>rw[hF.any];trivial
  | aI v=>rw[hF.aI];exact eK.mono hy hS (λ _ _=>rfl)
  | aw i =>
   have q:=hC (.aw i) y hy;rcases hF.aw i with ⟨u,e⟩|e<;>rw[e] at q ⊢
   .exact q.gu
   .exact q
  | agg cs =>
   obtain⟨l,rfl,h2⟩:=hy;rw[hF.agg];exact⟨l,rfl,aV.ej _ (h2.imp λ u y _ hy=>hC u y hy)⟩
  | dc v =>
   have q:=hC (.dc v) y hy;rw[hF.dc] at q ⊢;exact q
  | _=>exact hy.elim
 | di f cs =>
  obtain⟨l,rfl,h2⟩:=h;rw[hF.di];exact⟨l,rfl,aV.ej _ (h2.imp λ u y _ hy=>CR.fx hF hC hS hy)⟩
 | any=>rw[hF.any];trivial
 | _=>exact key h
end
theorem a8T(id:Nat)(u:TV):Fx (AV.KW id (.aI u)):=⟨λ _=>rfl,λ cs=>by rw[AV.KW,ED],λ cs=>by rw[AV.KW,ED],λ f cs=>by rw[AV.KW,ED],rfl,λ i => .inr rfl,λ _=>rfl⟩
theorem a8S(id:Nat)(u:TV):Fx (AV.HE id (.aI u)):=⟨λ _=>rfl,λ cs=>by rw[AV.HE,EC],λ cs=>by rw[AV.HE,EC],λ f cs=>by rw[AV.HE,EC],rfl,λ i=>by
 simp only[AV.HE];split
 .exact .inl ⟨u,rfl⟩
 .exact .inr rfl,λ _=>rfl⟩
def aD.fi(F:AV->AV):aD->aD
 | .box cs => .box (cs.map F)
 | o=>o
theorem Inv.fix(h:Inv c G s a w)(id:Nat)(F:AV->AV)(hF:Fx F)(B:Nat->Prop)(hB:∀ b,B b->(c.w0.heap.size<=b\/c.X b)/\b<w.heap.size/\(∀ i o,i≠id->s.af i=some o->ew (G.η i)≠some b)/\∀ i τ xs,i≠id->s.af i=some (.aw τ xs)->b∉G.φ i)
  (hC:∀ lk',(∀ j,j≠id->eF (s.af j) (lk' j))->∀ v x,C1 c G s.af w v x->C1 c ⟨λ b=>G.S b\/B b,G.η,G.φ⟩ lk' w (F v) x) :
  Inv c ⟨λ b=>G.S b\/B b,G.η,G.φ⟩ { aB:=s.aB.map F,aN:=(bS id s.aN).map λ p=>(p.1,p.2.fi F) } a w:=by
 have hS:∀ b,G.S b->G.S b\/B b:=λ b hb => .inl hb;have cF:∀ i,ah.af { aB:=s.aB.map F,aN:=(bS id s.aN).map λ p=>(p.1,p.2.fi F) } i=(if i=id then none else s.af i).map (aD.fi F):=by
  intro i;show af ((bS id s.aN).map _) i=_;rw[Kl,eC];rfl
 have e9:∀ j,j≠id->eF (s.af j) (ah.af { aB:=s.aB.map F,aN:=(bS id s.aN).map λ p=>(p.1,p.2.fi F) } j):=by
  intro j hj;rw[cF,b3R hj];refine⟨λ hh=>?_,λ e τ xs hh=>⟨e,xs,by rw[hh];rfl,b4r _⟩,λ hh=>?_,λ hh=>?_⟩
  .match hq:s.af j,hh with
   | some (.box cs),_=>rfl
  .match hq:s.af j,hh with
   | some (.aw τ xs),_=>rfl
  .match hq:s.af j,hh with
   | some (.map m),_=>rfl
 have hC:=hC _ e9;have hinv:∀ i o,ah.af { aB:=s.aB.map F,aN:=(bS id s.aN).map λ p=>(p.1,p.2.fi F) } i=some o->i≠id/\∃ o',s.af i=some o'/\o=o'.fi F:=λ i o cE=>by
  rw[cF] at cE;simp only[b4D] at cE;obtain⟨o',cE,rfl⟩:=cE;by_cases hi:i=id
  .simp[hi] at cE
  .rw[b3R hi] at cE;exact⟨hi,o',cE,rfl⟩
 exact {
  defers:=h.defers
  size:=by rw[h.size];simp
  aR:=h.aR
  jP:=h.jP
  eu:=λ b hbl hx=>⟨λ hh=>by
   rcases hh with hh|hh
   .exact (h.eu b hbl hx).1 hh
   .exact (hB b hh).1.elim (λ q=>by omega) (λ q=>absurd q hx),λ hh => .inl ((h.eu b hbl hx).2 hh)⟩
  sX:=λ b hh => .inl (h.sX b hh)
  dH:=λ b hh=>by
   rcases hh with hh|hh
   .exact h.dH b hh
   .exact (hB b hh).2.1
  aB:=λ i=>by
   have he:ah.sl { aB:=s.aB.map F,aN:=(bS id s.aN).map λ p=>(p.1,p.2.fi F) } i=F (s.sl i):=by
    simp only[ah.sl,b3V,b5z];cases s.aB[i]? with
    | none=>exact hF.any.symm
    | some v=>rfl
   rw[he];exact VR.fx hF hC hS (h.aB i)
  aN:=λ i o cE=>by
   obtain⟨hi,o',eA,rfl⟩:=hinv i o cE;have cN:=h.aN i o' eA;cases o' with
   | box cs =>
    obtain⟨b,l,t,k1,k2,k3⟩:=cN;exact⟨b,l,t,k1,k2,aV.ej _ (k3.imp λ u y _ hy=>hC u y hy)⟩
   | row e2 lj nN =>
    obtain⟨l,k1,k2,k3⟩:=cN;exact⟨l,k1,dT.aR hS (λ _ _=>rfl) _ k2,k3⟩
   | aw lj nN=>trivial
   | map m=>exact cN
  place:=λ i o b cE iD=>by
   obtain⟨hi,o',eA,rfl⟩:=hinv i o cE;obtain⟨q1,q2,q3⟩:=h.place i o' b eA iD;exact⟨q1,λ hs=>hs.elim q2 λ hs=>(hB b hs).2.2.1 i o' hi eA iD,q3⟩
  apart:=λ i j o o2 b cE NG rh oa=>by
   obtain⟨_,o',eA,rfl⟩:=hinv i o cE;obtain⟨_,o2',b2o,rfl⟩:=hinv j o2 NG;exact h.apart i j o' o2' b eA b2o rh oa
  aP:=by
   have hold:∀ j lj nN,ah.af { aB:=s.aB.map F,aN:=(bS id s.aN).map λ p=>(p.1,p.2.fi F) } j=some (.aw lj nN)->j≠id/\s.af j=some (.aw lj nN):=λ j lj nN k=>by
    obtain⟨hj,o',NG,e⟩:=hinv j _ k;refine⟨hj,?_⟩;match o',e with
    | .aw ..,e=>rw[NG,e];rfl
    | .box _,e=>cases e
    | .row ..,e=>cases e
    | .map _,e=>cases e
   exact {
    tr:=λ j lj nN k=>h.aP.tr j lj nN (hold j lj nN k).2
    nd:=λ j lj nN k=>h.aP.nd j lj nN (hold j lj nN k).2
    pl:=λ j lj nN b k cz=>by
     obtain⟨hj,k⟩:=hold j lj nN k;obtain⟨q1,q2,q3,q4⟩:=h.aP.pl j lj nN b k cz;refine⟨q1,λ hs=>hs.elim q2 λ hs=>(hB b hs).2.2.2 j lj nN hj k cz,q3,λ i o cE=>?_⟩;obtain⟨_,o',eA,rfl⟩:=hinv i o cE;exact q4 i o' eA
    ap:=λ j j' lj b0p nN b0o b k k'=>h.aP.ap j j' lj b0p nN b0o b (hold j lj nN k).2 (hold j' b0p b0o k').2 }
  root:=λ i v hr ht=>h.root i v hr (by
   match hl:ah.af { aB:=s.aB.map F,aN:=(bS id s.aN).map λ p=>(p.1,p.2.fi F) } i,ht with
   | some (.aw ..),_ =>
    obtain⟨_,o',cE,e⟩:=hinv i _ hl;match o',e with
    | .aw ..,e=>rw[cE];rfl
    | .box _,e=>cases e
    | .row ..,e=>cases e
    | .map _,e=>cases e)
  iP:=h.iP
  dw:=λ i v hr ht=>h.dw i v hr (by
   match hl:ah.af { aB:=s.aB.map F,aN:=(bS id s.aN).map λ p=>(p.1,p.2.fi F) } i,ht with
   | some (.box _),_ =>
    obtain⟨_,o',cE,e⟩:=hinv i _ hl;match o',e with
    | .box _,e=>rw[cE];rfl
    | .aw ..,e=>cases e
    | .row ..,e=>cases e
    | .map _,e=>cases e)
  fh:=h.fh }
theorem a5Q(id:Nat)(u:AV)(o:aD):o.KW id u=o.fi (AV.KW id u):=by
 cases o<;>simp[aD.KW,aD.fi,ED]
theorem a5P(id:Nat)(u:AV)(o:aD):o.HE id u=o.fi (AV.HE id u):=by
 cases o<;>simp[aD.HE,aD.fi,EC]
theorem Inv.freeze(h:Inv c G s a w)(id:Nat):∃ G',Inv c G' (s.freeze id) a w:=by
 unfold ah.freeze;split
 .rename_i e τ xs aX;have ho:=h.aN id _ aX;rw[ED];simp only[a5Q];exact⟨_,h.fix id _ (a8T id _) (λ b=>ew (G.η id)=some b) (λ b hb=>by
   obtain⟨q1,_,q3⟩:=h.place id _ b aX hb;exact⟨q1,q3,λ i o hi cE rh=>hi (h.apart i id o _ b cE aX rh hb),λ i τ xs _ k q=>(h.aP.pl i τ xs b k q).2.2.2 id _ aX hb⟩)
   λ lk' hs v x hv=>C1.KW aX ho (λ _ hb => .inl hb) (λ _ hb => .inr hb) hs hv⟩
 .rename_i τ xs aX;rw[EC];simp only[a5P];exact⟨_,h.fix id _ (a8S id _) (λ b=>b∈G.φ id) (λ b hb=>by
   obtain⟨q1,_,q3,q4⟩:=h.aP.pl id _ _ b aX hb;exact⟨q1,q3,λ i o _ cE=>q4 i o cE,λ i τ xs hi k q=>hi (h.aP.ap i id _ _ _ _ b k aX q hb)⟩)
   λ lk' hs v x hv=>C1.HE aX (h.aP.tr id _ _ aX) (λ _ hb => .inl hb) (λ _ hb => .inr hb) hs hv⟩
 .exact⟨G,h⟩
theorem Inv.IS:∀ (l:List Nat) {G:Gh} {s:ah},Inv c G s a w->∃ G',Inv c G' (l.foldl ah.freeze s) a w
 | [],G,s,h=>⟨G,h⟩
 | i::r,G,s,h=>by
  obtain⟨G',h'⟩:=h.freeze i;exact Inv.IS r h'
theorem Kj{lk:Nat->Option aD}{v:AV}{x:Value}{K:Prop}(hv:VR c G lk w v x)(h:known v K):K:=by
 unfold known at h;split at h
 .rename_i n;obtain⟨_,h1,h2⟩:=hv;refine h ⟨?_,?_⟩
  .have:=h1;simp only[IntKind.min,IntKind.signed,IntKind.bits,b5y] at this;omega
  .have:=h2;simp only[IntKind.max,IntKind.signed,IntKind.bits,b5y] at this;omega
 .rename_i t xs;obtain⟨_,_,_,_,h1,_⟩:=jZ hv;exact h h1
 .rename_i xs;obtain⟨s,_,h2,h3⟩:=hv;subst h2;exact h (by rw[b4K];exact h3)
 .exact h
theorem b0t{l:List Operand}{u v:AV}{ev:Operand->AV}(h:l.map ev=[u,v]){lk:Nat->Option aD}(cW:∀ x,VR c G lk w (ev x) (a.eval x)):∃ x y,l.map a.eval=[x,y]/\VR c G lk w u x/\VR c G lk w v y:=by
 have:=aV.pj cW l;rw[h] at this;match hl:l.map a.eval,this with
 | [x,y],hh=>exact⟨x,y,rfl,hh.1,hh.2.1⟩
theorem Me(hE:bH c.P c.E)(h:Inv c G s a w){o:Oper}{T:TypeId}{m k x:Operand}(bB:o.op = .mapUpdate T m k x\/o.op = .insert T m k x){vc:Vc}{s':ah}(he:VJ c.E s o.dst T m k x=some (vc,s'))(ep:vc.ok){Q:Exit->Act->World->Prop} :
  o.wp c.P a w (λ a' w'=>∃ G',Inv c G' s' a' w') Q:=by
 cases he
theorem a3B(hE:bH c.P c.E)(h:Inv c G s a w){o:Oper}{vc:Vc}{s':ah}(he:eop c.E s o=some (vc,s'))(ep:vc.ok){Q:Exit->Act->World->Prop} :
  o.wp c.P a w (λ a' w'=>∃ G',Inv c G' s' a' w') Q:=by
 unfold eop at he;split at he
 .rename_i bB;exact Me hE h (.inl bB) he ep
 .rename_i bB;exact Me hE h (.inr bB) he ep
 .rename_i T ad x bB;split at he
  .rename_i τ r hT;have hp:=bx h ad;have hx:=bx h x;have fin:∀ w' G1 (s1:ah),(Instr.storeAt T (a.eval ad) (a.eval x)).run c.P w = .ok () w'->Inv c G1 s1 a w'->s'=s1.put o.dst .any->o.wp c.P a w (λ a' w'=>∃ G',Inv c G' s' a' w') Q:=by
    intro w' G1 s1 hr hi hs;unfold Oper.wp;have:(execOp a.eval o).run c.P w = .ok .skip w':=by simp only[execOp,bB,Sem.run_bind,hr,Result.andThen_ok,Sem.run_pure]
    rw[this];refine⟨G1,?_⟩;rw[hs];exact Inv.put hi trivial
   split at he
   .rename_i id off cW;split at he
    .rename_i cs aX;split at he
     .rename_i new sN;split at he
      .rename_i dA EO;simp only[b3C,b3F] at he;obtain⟨rfl,rfl⟩:=he;rw[cW] at hp;obtain⟨w',k1,k2⟩:=h.store hE hT aX hp ⟨_,sN,hx⟩ EO;exact fin w' _ _ k1 k2 rfl
      .cases he
     .cases he
    .cases he
   .rename_i id i cW;split at he
    .rename_i e' bj xs aX;split at he
     .rename_i y jx hy;have jx:=b4u jx;subst jx;simp only[b3C,b3F] at he;obtain⟨rfl,rfl⟩:=he;rw[cW] at hp;obtain⟨w',k1,k2⟩:=h.a6u hE hT aX hp hx hy;exact fin w' _ _ k1 k2 rfl
     .cases he
    .cases he
   .cases he
  .cases he
 .rename_i cl bB;split at he
  .rename_i gT;split at he
   .rename_i d T T' hd hTs;split at he
    .rename_i τ b e WT hT;have WT:=b3G WT;subst WT;split at he
     .rename_i id y dF;split at he
      .rename_i e' bj xs ys aX hy;split at he
       .rename_i cV EK lB;have EK:=b3G EK;have e1:=TV.aW lB;cases e1;subst EK;simp only[b3C,b3F] at he;obtain⟨rfl,rfl⟩:=he;obtain⟨x,z,m1,m2,m3⟩:=b0t (a:=a) (c:=c) (G:=G) (w:=w) dF (bx h);obtain⟨v',w',G',k1,k2⟩:=h.append hE hT (d:=d) aX m2 m3 hy ep o.type;have PY:cl.argTypes = #[T,T]:=by rw[<-b4N (xs:=cl.argTypes),hTs]
        have I7:cl.args.map a.eval = #[x,z]:=by rw[<-b4N (xs:=cl.args.map a.eval),b5F,m1]
        unfold Oper.wp;have:(execOp a.eval o).run c.P w = .ok (.value v') w':=by
         simp[execOp,bB,resolve,gT,invoke,builtin,PY,I7,k1]
        rw[this];refine⟨G',?_⟩;rw[hd];exact k2
       .cases he
      .cases he
     .cases he
    .cases he
   .cases he
  .cases he
 .cases he
theorem a4d(hE:bH c.P c.E)(h:Inv c G s a w){o0:Oper}{vc:Vc}{v:AV}{ob:Option aD}(he:nop c.E s o0=some (vc,v,ob))(ep:vc.ok){Q:Exit->Act->World->Prop} :
  o0.wp c.P a w (BV c G s.sl s.aB.length s.af o0.dst a w v ob) Q:=by
 unfold nop at he;split at he;case h_2=>cases he
 case h_1 cl bB =>
 split at he;case h_2=>cases he
 case h_1 f gT =>
 split at he;case h_2=>cases he
 case h_1 d hd =>
 split at he;case h_2=>cases he
 case h_1 Z9 has =>
 have key:∀ (T:Nat->Prop),(∀ x∈cl.args.toList.map a.eval,∀ q:Addr,x = .pointer (some q)->T q.block)->∀ pre o,c.E.XU f Z9=some (pre,o)->pre.ok->o0.wp c.P a w (λ a' w'=>∃ x S',a'=a.put o0.dst x/\bw c ⟨S',G.η,G.φ⟩ s.sl s.aB.length s.af a w' /\
   (∀ b,G.S b->S' b)/\(∀ b,ew x=some b->w.heap.size<=b/\b<w'.heap.size/\¬ S' b)/\a6G w' S' T x o) Q:=λ T hT pre o hc ep=>by
  obtain⟨od,iW⟩:=hE.XU f Z9 pre o hc ep;unfold Oper.wp;rw[gX bB gT rfl od];simp only[Oper.upon];refine (iW w G.S T _ h.sOk hT (iq hE h (Gv (λ _ _ h=>h)) (λ _ h=>h) (λ τ v x y h1 h2=>D3 Gw CW h1 h2) has (aV.pj (bx h) _))).mono ?_;rintro e w' ⟨x,S',rfl,hk,hS1,hS2,hb,hx⟩;exact⟨x,S',rfl,bw.grow h hk hS1 hS2,λ b hb=>(hS1 b (h.dH b hb)).2 hb,hb,hx⟩
 split at he;case h_4=>cases he
 case h_3 pre l hc =>
  split at he;case h_2=>cases he
  case h_1 cv =>
  simp only[b3C,b3F] at he;obtain⟨rfl,rfl,rfl⟩:=he;refine b5j ?_ (key (St c G.S) (λ x hx q hq=>?_) _ _ hc ep)
  .rintro a' w' ⟨x,S',rfl,hI,hS,hb,ys,rfl,R5⟩;refine⟨_,S',rfl,hI,ys.toArray.toList,rfl,aV.ej _ (R5.imp λ r y _ hy=>?_)⟩;obtain⟨bb,v⟩:=r;cases bb with
   | true =>
    obtain⟨b,o,cs,h1,h2,h3,h4⟩:=hy;exact⟨b,o,cs,h1,h2.elim .inl λ h2=>h2.imp (hS b) id,h3,h4⟩
   | false=>exact hy
  .obtain⟨y,hy,rfl⟩:=b3N.1 hx;have h1:=b4C.1 cv _ (b3N.2 ⟨y,hy,rfl⟩);have h2:=bx h y;generalize s.eval y=v at h1 h2;rw[hq] at h2;cases v with
   | dc u=>obtain⟨b,o,cs,e,h3,_⟩:=h2;cases e;exact h3
   | aI u =>
    obtain⟨τ,z⟩:=u;cases τ with
    | int k=>obtain⟨e,_⟩:=h2;cases e
    | bool=>have e:[Value.pointer (some q)]=[.bool z]:=h2;cases e
    | str=>obtain⟨_,e,_⟩:=h2;cases e
    | slice t=>obtain⟨_,_,e,_⟩:=h2;cases e
    | st s=>obtain⟨_,e,_⟩:=h2;cases e
    | mv t=>cases z with
     | none=>obtain⟨_,_,_,e⟩:=h2;cases e
     | some z=>obtain⟨_,_,e,_⟩:=h2;cases e
    | ptr=>cases h1
   | _=>cases h1
 case h_1 pre cells hc =>
  simp only[b3C,b3F] at he;obtain⟨rfl,rfl,rfl⟩:=he;refine b5j ?_ (key (λ _=>True) (λ _ _ _ _=>trivial) _ _ hc ep);rintro a' w' ⟨x,S',rfl,hI,_,hb,b,l,t,rfl,hh,kr⟩;exact⟨_,S',rfl,hI,⟨d,hd,rfl⟩,⟨b,l,t,rfl,hh,aV.ej _ (kr.imp λ u y _ hy=>hy)⟩,hb⟩
 case h_2 pre e τ xs hc =>
  simp only[b3C,b3F] at he;obtain⟨rfl,rfl,rfl⟩:=he;refine b5j ?_ (key (λ _=>True) (λ _ _ _ _=>trivial) _ _ hc ep);rintro a' w' ⟨x,S',rfl,hI,_,hb,l,h1,h2,h3⟩;exact⟨_,S',rfl,hI,⟨d,hd,rfl⟩,⟨l,h1,h2,h3⟩,hb⟩
theorem Q9(hE:bH c.P c.E)(h:Inv c G s a w){o:Oper}{K:ah->Prop}(hr:lO c.E o K s){Q:Exit->Act->World->Prop} :
  o.wp c.P a w (λ a' w'=>∃ G' s',Inv c G' s' a' w'/\K s') Q:=by
 unfold lO at hr;split at hr
 .exact hr.elim
 rename_i Nz;obtain⟨G1,h1⟩:=h.IS (lp c.E s o);generalize (lp c.E s o).foldl ah.freeze s=s1 at *
 simp only at hr;split at hr
 .rename_i vc s' he;exact b5j (λ a' w' ⟨G',hg⟩=>⟨G',s',hg,(Vc.kc hr).2⟩) (a4x hE h1 he (Vc.kc hr).1)
 split at hr
 .rename_i vc s' he;exact b5j (λ a' w' ⟨G',hg⟩=>⟨G',s',hg,(Vc.kc hr).2⟩) (a3u hE h1 he (Vc.kc hr).1)
 split at hr
 .rename_i vc s' he;exact b5j (λ a' w' ⟨G',hg⟩=>⟨G',s',hg,(Vc.kc hr).2⟩) (a3B hE h1 he (Vc.kc hr).1)
 .split at hr
  .rename_i vc s' he;exact b5j (λ a' w' ⟨G',hg⟩=>⟨G',s',hg,(Vc.kc hr).2⟩) (a4m hE h1 he (Vc.kc hr).1)
  split at hr
  .rename_i vc v ob he;refine b5j ?_ (a4d hE h1 he (Vc.kc hr).1);intro a' w' hd;obtain⟨G',hl⟩:=XD h1 Nz hd;exact⟨G',_,hl,(Vc.kc hr).2⟩
  .split at hr
   .rename_i vc v ob hq;obtain⟨ep,hk⟩:=Vc.kc hr;refine b5j ?_ (Oo hE h1 (λ _ _ h=>h) (bx h1) hq ep);intro a' w' hd;obtain⟨G',hl⟩:=XD h1 Nz hd;refine⟨G',_,hl,?_⟩;split at hk
    .obtain⟨x,S',_,_,hx⟩:=hd;cases ob with
     | none=>exact Kj hx hk
     | some ob =>
      obtain⟨hL,_⟩:=hx;cases ob with
      | box cs=>obtain⟨i,_,rfl⟩:=hL;exact hk
      | row e τ xs=>obtain⟨i,_,rfl⟩:=hL;exact hk
      | aw τ xs=>exact hL.elim
      | map m=>obtain⟨i,_,rfl⟩:=hL;exact hk
    .exact hk
   .exact hr.elim
theorem a3I{t:Array Value}{i:Nat}{b:Bool}(h:t.getD i undef = .bool b):t[i]?=some (.bool b):=by
 rw[b4z] at h;cases hx:t[i]? with
 | none=>rw[hx] at h;simp[undef] at h
 | some v=>rw[hx] at h;simpa using h
theorem Nv{ops:Array Oper}{g t:Nat}{b:Bool}(ht:Ax ops g=some t)(hx:VR c G s.af w (.aI ⟨.bool,b⟩) (a.eval (.tmp t))):yielded ops a.tmps g=some b:=by
 have hb:[a.eval (.tmp t)]=[.bool b]:=hx;simp only[List.cons.injEq,and_true] at hb;have:=a3I hb;unfold yielded;rw[show (ops[g]?).bind (·.dst)=some t from ht];simp[this]
theorem IY{ops:Array Oper}{g t:Nat}(ht:Ax ops g=some t)(hx:VR c G s.af w .eh (a.eval (.tmp t))):yielded ops a.tmps g=none:=by
 have hb:a.eval (.tmp t)=undef:=hx;have hb:a.tmps.getD t undef=undef:=hb;unfold yielded;rw[show (ops[g]?).bind (·.dst)=some t from ht];rw[Array.getD_eq_getD_getElem?] at hb;cases hx:a.tmps[t]? with
 | none=>simp[hx]
 | some v =>
  rw[hx] at hb;have hv:v=undef:=hb;subst hv;simp[hx,undef]
theorem Inv.slot(h:Inv c G s a w)(t:Nat){b b':Bool}(he:s.eval (.tmp t) = .aI ⟨.bool,b⟩)(hb:b=b'):Inv c G (s.put (some t) (.aI ⟨.bool,b'⟩)) a w:=by
 have:s.put (some t) (.aI ⟨.bool,b'⟩)=s\/(s.put (some t) (.aI ⟨.bool,b'⟩)).sl=s.sl:=by
  right;rw[a5x];funext i;unfold j9;split
  .rename_i hi;obtain⟨h1,h2⟩:=hi;simp only[b3C] at h1;subst h1;rw[<-hb,<-he];rfl
  .rfl
 rcases this with e|e
 .rw[e];exact h
 .unfold Inv;rw[e,Z7,T4];exact h
theorem Fz(hE:bH c.P c.E){ops:Array Oper}{Q:ah->Prop}{o:Oper}{r:List Oper}{kn:List (Nat×Bool)}(h:Inv c G s a w)(hr:fv c.E ops (o::r) kn Q s) :
  if Region.wanted o (yielded ops a.tmps)=true then ∀ Q':Exit->Act->World->Prop,o.wp c.P a w (λ a' w'=>∃ G' s' pL,Inv c G' s' a' w'/\fv c.E ops r pL Q s') Q'
  else ∃ G' s' pL,Inv c G' s' (a.put o.dst undef) w/\fv c.E ops r pL Q s':=by
 have run:∀ (kn:List (Nat×Bool)) (s:ah),Inv c G s a w->lO c.E o (fv c.E ops r kn Q) s->∀ Q':Exit->Act->World->Prop,o.wp c.P a w (λ a' w'=>∃ G' s' pL,Inv c G' s' a' w'/\fv c.E ops r pL Q s') Q':=λ kn s hs cH Q' =>
  b5j (λ a' w' ⟨G',s',h1,h2⟩=>⟨G',s',kn,h1,h2⟩) (Q9 hE hs cH)
 have skip:∀ (kn:List (Nat×Bool)) (s:ah),Inv c G s a w->fv c.E ops r kn Q (s.put o.dst .eh)->∃ G' s' pL,Inv c G' s' (a.put o.dst undef) w/\fv c.E ops r pL Q s':=λ kn s hs hk =>
  ⟨G,_,kn,Inv.put (v := .eh) hs rfl,hk⟩
 simp only[fv] at hr;split at hr
 .rename_i hg;have hw:Region.wanted o (yielded ops a.tmps)=true:=by simp[Region.wanted,hg]
  rw[b4n hw];exact run kn s h hr
 .rename_i g want hg;split at hr
  .exact hr.elim
  .rename_i t ht;split at hr
   .rename_i b hb;split at hr
    .rename_i b' cW;have hx:=bx h (.tmp t);rw[cW] at hx;have hy:=Nv (s:=s) ht hx;split at hr
     .rename_i iD Ny;have iD:=eq_of_beq iD;subst iD;have hw:Region.wanted o (yielded ops a.tmps)=true:=by simp[Region.wanted,hg,hy];simpa using Ny
      rw[b4n hw];exact run kn s h hr
     .rename_i iD Ny;have iD:=eq_of_beq iD;subst iD;have hw:Region.wanted o (yielded ops a.tmps)=false:=by simp[Region.wanted,hg,hy];simpa using Ny
      rw[hw];exact skip kn s h hr
     .exact hr.elim
    .rename_i cW;have hx:=bx h (.tmp t);rw[cW] at hx;have hy:=IY (s:=s) ht hx;have hw:Region.wanted o (yielded ops a.tmps)=false:=by simp[Region.wanted,hg,hy]
     rw[hw];exact skip kn s h hr
    .exact hr.elim
   .split at hr
    .rename_i b cW;have hx:=bx h (.tmp t);rw[cW] at hx;have hy:=Nv (s:=s) ht hx;by_cases Ny:b=want
     .have hw:Region.wanted o (yielded ops a.tmps)=true:=by simp[Region.wanted,hg,hy,Ny]
      rw[b4n hw];exact run _ _ (h.slot t cW Ny) (hr.1 Ny)
     .have YS:b = !want:=by cases b<;>cases want<;>simp_all
      have hw:Region.wanted o (yielded ops a.tmps)=false:=by simp[Region.wanted,hg,hy,YS]
      rw[hw];exact skip _ _ (h.slot t cW YS) (hr.2 YS)
    .rename_i cW;have hx:=bx h (.tmp t);rw[cW] at hx;have hy:=IY (s:=s) ht hx;have hw:Region.wanted o (yielded ops a.tmps)=false:=by simp[Region.wanted,hg,hy]
     rw[hw];exact skip kn s h hr
    .exact hr.elim
theorem Da(hE:bH c.P c.E){ops:Array Oper}{Q:ah->Prop}{Q':Exit->Act->World->Prop}(hQ:∀ G s a w,Inv c G s a w->Q s->Q' .normal a w) :
  ∀ (r:List Oper) (i:Nat) (kn:List (Nat×Bool)) (G:Gh) (s:ah) (a:Act) (w:World),(∀ j o,r[j]?=some o->ops[i+j]?=some o)->Inv c G s a w->fv c.E ops r kn Q s->wpOps c.P ops Q' (List.range' i r.length) a w
 | [],i,kn,G,s,a,w,_,h,hr=>hQ G s a w h hr
 | o::r,i,kn,G,s,a,w,b0c,h,hr=>by
  have ho:ops[i]?=some o:=b0c 0 o rfl;have AB:∀ j p,r[j]?=some p->ops[i+1+j]?=some p:=λ j p hj=>by
   have:=b0c (j+1) p (by simpa using hj);rwa [show i+(j+1)=i+1+j by omega] at this
  simp only[b3P,List.range'_succ,wpOps,ho];have lA:=Fz hE h hr;split at lA
  .rename_i hw;rw[b4n hw];exact .inl (b5j (λ a' w' ⟨G',s',pL,h1,h2⟩=>Da hE hQ r (i+1) pL G' s' a' w' AB h1 h2) (lA Q'))
  .rename_i hw;rw[b3R hw];obtain⟨G',s',pL,h1,h2⟩:=lA;exact Da hE hQ r (i+1) pL G' s' _ w AB h1 h2
end
structure Rv where
 LJ:Bool
 v:AV
 ob:Option aD
def GV(want LJ:Bool):AV->Prop
 | .aI ⟨.bool,b⟩=>LJ=(b == want)
 | .eh=>LJ=false
 | _=>False
def gj(l:List Oper)(bits:Nat)(s:ah)(o:Oper)(LJ:Bool):Prop :=
 match o.guard with
 | none=>LJ=true
 | some (g,want)=>∃ t v,cD l g=some t/\Nat.testBit bits g=true/\s.eval (.tmp t)=v/\GV want LJ v
def VV(E:Env)(l:List Oper)(m bits:Nat)(s:ah)(o:Oper)(e:Rv):Prop :=
 gj l bits s o e.LJ/\(e.LJ=true->∃ vc:Vc,On E (U7 l m bits s) (YO l m bits s) o=some (vc,e.v,e.ob)/\vc.ok)/\(e.LJ=false->e.v = .eh/\e.ob=none)
def Trace(E:Env)(l:List Oper)(m:Nat)(cm:List Nat):Nat->List Oper->List Rv->ah->ah->Prop
 | _,[],[],s,s'=>s=s'
 | i,o::r,e::es,s,s'=>VV E l m (cm.getD i 0) s o e/\Trace E l m cm (i+1) r es (s.jC o.dst e.v e.ob) s'
 | _,_,_,_,_=>False
def a0m{s:ah}{t:Nat}{v:AV}(h:s.eval (.tmp t)=v)(hv:v ≠ .any):s.put (some t) v=s:=by
 have bN:t<s.aB.length:=by
  rcases b4J t s.aB.length with hl|hl
  .exact hl
  .simp only[ah.eval,b3V,b5H hl,Option.getD_none] at h;exact absurd h.symm hv
 simp only[ah.eval,b3V,b4j bN,b7g] at h;simp only[ah.put];congr 1;subst h;exact List.set_getElem_self bN
def Sx(s:ah)(d:Option Nat):s.jC d .eh none=s.put d .eh:=by cases d<;>rfl
def uK{E:Env}{l:List Oper}{m:Nat}{cm:List Nat}{Q:List (Nat×Bool)->ah->Prop}:∀ {r:List Oper} {i:Nat} {kn:List (Nat×Bool)} {s:ah},nt E l m cm i r kn Q s ->
  ∃ es pL s',Trace E l m cm i r es s s'/\Q pL s'
 | [],i,kn,s,h=>⟨[],kn,s,rfl,h⟩
 | o::r,i,kn,s,h=>by
  have run:∀ kn,gj l (cm.getD i 0) s o true->Ra E l m (cm.getD i 0) o (nt E l m cm (i+1) r kn Q) s->∃ es pL s',Trace E l m cm i (o::r) es s s'/\Q pL s':=by
   intro kn hg hr;unfold Ra at hr;split at hr
   .split at hr
    .rename_i vc v ob hq;obtain⟨es,pL,s',h1,h2⟩:=uK (Vc.kc hr).2;exact⟨⟨true,v,ob⟩::es,pL,s',⟨⟨hg,λ _=>⟨vc,hq,(Vc.kc hr).1⟩,λ h=>(by cases h)⟩,h1⟩,h2⟩
    .exact hr.elim
   .exact hr.elim
  have skip:∀ kn,gj l (cm.getD i 0) s o false->nt E l m cm (i+1) r kn Q (s.put o.dst .eh)->∃ es pL s',Trace E l m cm i (o::r) es s s'/\Q pL s':=by
   intro kn hg hr;obtain⟨es,pL,s',h1,h2⟩:=uK hr;exact⟨⟨false, .eh,none⟩::es,pL,s',⟨⟨hg,λ h=>(by cases h),λ _=>⟨rfl,rfl⟩⟩,by rw[Sx];exact h1⟩,h2⟩
  simp only[nt] at h;split at h
  .rename_i hg;exact run kn (by simp[gj,hg]) h
  .rename_i g want hg;split at h
   .rename_i t ht ZW;split at h
    .rename_i b hb;split at h
     .rename_i b' cW;split at h
      .rename_i iD Ny;have iD:=eq_of_beq iD;subst iD;exact run kn (by simp only[gj,hg];exact⟨t,_,ht,ZW,cW,Ny.symm⟩) h
      .rename_i iD Ny;have iD:=eq_of_beq iD;subst iD;exact skip kn (by simp only[gj,hg];exact⟨t,_,ht,ZW,cW,Ny.symm⟩) h
      .exact h.elim
     .rename_i cW;exact skip kn (by simp only[gj,hg];exact⟨t,_,ht,ZW,cW,rfl⟩) h
     .exact h.elim
    .split at h
     .rename_i b cW;by_cases Ny:b=want
      .have h':=h.1 Ny;subst Ny;rw[a0m cW (by simp)] at h';exact run _ (by simp only[gj,hg];exact⟨t,_,ht,ZW,cW,by simp[GV]⟩) h'
      .have YS:b = !want:=by cases b<;>cases want<;>simp_all
       have h':=h.2 YS;rw[<-YS,a0m cW (by simp)] at h';exact skip _ (by simp only[gj,hg];exact⟨t,_,ht,ZW,cW,by simpa [GV] using Ny⟩) h'
     .rename_i cW;exact skip kn (by simp only[gj,hg];exact⟨t,_,ht,ZW,cW,rfl⟩) h
     .exact h.elim
   .exact h.elim
def dR(l:List Oper)(es:List Rv)(s0:ah)(π:List Nat):ah :=
 π.foldl (λ s k=>s.jC (cD l k) (es.getD k ⟨false, .any,none⟩).v (es.getD k ⟨false, .any,none⟩).ob) s0
def Sy(s:ah)(d:Option Nat)(v:AV)(o:Option aD):(s.jC d v o).aB.length=s.aB.length:=by cases d<;>simp[ah.jC]
def Qr(l:List Oper)(es:List Rv):∀ (π:List Nat) (s0:ah),(dR l es s0 π).aB.length=s0.aB.length
 | [],_=>rfl
 | k::π,s0=>by
  show (dR l es (s0.jC _ _ _) π).aB.length=_;rw[Qr l es π,Sy]
def Re(s:ah)(d:Option Nat)(v:AV)(o:Option aD):(s.jC d v o).sl=j9 s.aB.length s.sl d v:=by
 cases d with
 | none=>funext i;simp[ah.jC,j9]
 | some d=>exact sy s.aB d v _
def Gr(s:ah)(d:Option Nat)(v:AV)(o:Option aD)(j:Nat):(s.jC d v o).af j=if d=some j then (match o with
  | some o=>some o
  | none=>s.af j) else s.af j:=by
 cases d with
 | none=>simp[ah.jC]
 | some d =>
  cases o with
  | none =>
   simp only[ah.jC,ah.af,ite_self]
  | some o =>
   show af ((d,o)::s.aN) j=_;rw[dB];by_cases h:j=d
   .subst h;simp
   .have:¬ (some d=some j):=by simp;exact λ e=>h e.symm
    rw[b3R h,b3R this];rfl
def gI(l:List Oper)(es:List Rv)(t:Nat):∀ (π:List Nat) (s0:ah),(∀ k∈π,cD l k≠some t)->(dR l es s0 π).sl t=s0.sl t/\(dR l es s0 π).af t=s0.af t
 | [],_,_=>⟨rfl,rfl⟩
 | k::π,s0,h=>by
  obtain⟨h1,h2⟩:=gI l es t π (s0.jC (cD l k) (es.getD k ⟨false, .any,none⟩).v (es.getD k ⟨false, .any,none⟩).ob) (λ j hj=>h j (by simp[hj]));have hk:=h k (by simp);constructor
  .show (dR l es (s0.jC _ _ _) π).sl t=_;rw[h1,Re,j9,b3R (λ hh=>hk hh.1)]
  .show (dR l es (s0.jC _ _ _) π).af t=_;rw[h2,Gr,b3R hk]
def Br(l:List Oper)(es:List Rv)(t k:Nat)(hk:cD l k=some t):∀ (π:List Nat) (s0:ah),k∈π->π.Nodup->(∀ j∈π,j≠k->cD l j≠some t) ->
  (dR l es s0 π).sl t=(if t<s0.aB.length then (es.getD k ⟨false, .any,none⟩).v else s0.sl t) /\
  (dR l es s0 π).af t=(match (es.getD k ⟨false, .any,none⟩).ob with
   | some o=>some o
   | none=>s0.af t)
 | [],_,h,_,_=>by simp at h
 | j::π,s0,h,hn,ho=>by
  have Ds:=b4x.1 hn;by_cases hj:j=k
  .subst hj;obtain⟨h1,h2⟩:=gI l es t π (s0.jC (cD l j) (es.getD j ⟨false, .any,none⟩).v (es.getD j ⟨false, .any,none⟩).ob) (λ i hi=>ho i (by simp[hi]) (λ e=>by subst e;exact Ds.1 hi));constructor
   .show (dR l es (s0.jC _ _ _) π).sl t=_;rw[h1,Re,j9];simp[hk]
   .show (dR l es (s0.jC _ _ _) π).af t=_;rw[h2,Gr,b4n hk]
  .have P8:=ho j (by simp) hj;obtain⟨h1,h2⟩:=Br l es t k hk π (s0.jC (cD l j) (es.getD j ⟨false, .any,none⟩).v (es.getD j ⟨false, .any,none⟩).ob) (by simpa [Ne.symm hj] using h) Ds.2 (λ i hi=>ho i (by simp[hi]));constructor
   .show (dR l es (s0.jC _ _ _) π).sl t=_;rw[h1,Sy,Re,j9,b3R (c:=cD l j=some t/\_) (λ hh=>P8 hh.1)]
   .show (dR l es (s0.jC _ _ _) π).af t=_;rw[h2];split
    .rfl
    .rw[Gr,b3R P8]
def Yq{l:List Oper}{es:List Rv}{m bits:Nat}{s0:ah}{π π':List Nat}(rj:∀ j k t,j<m->k<m->cD l j=some t->cD l k=some t->j=k)
  (hπ:∀ k∈π,k<m) (Xh:∀ k∈π',k<m) (hn:π.Nodup) (Ds:π'.Nodup) (ha:∀ k,k<m->Nat.testBit bits k=true->k∈π/\k∈π') (t:Nat) (hh:hidden l m bits t=false) :
  (dR l es s0 π).sl t=(dR l es s0 π').sl t/\(dR l es s0 π).af t=(dR l es s0 π').af t:=by
 by_cases hex:∃ k,k<m/\cD l k=some t
 .obtain⟨k,hk,hd⟩:=hex;have hb:Nat.testBit bits k=true:=by
   have:=hh;unfold hidden at this;rw[List.any_eq_false] at this;have:=this k (by simpa using hk);simp only[hd] at this;simp only[Nat.beq_refl] at this;simpa using this
  obtain⟨h1,h2⟩:=ha k hk hb;obtain⟨e1,e2⟩:=Br l es t k hd π s0 h1 hn (λ j hj eZ HL=>eZ (rj j k t (hπ j hj) hk HL hd));obtain⟨e3,e4⟩:=Br l es t k hd π' s0 h2 Ds (λ j hj eZ HL=>eZ (rj j k t (Xh j hj) hk HL hd));exact⟨e1.trans e3.symm,e2.trans e4.symm⟩
 .have ie:∀ k,k<m->cD l k≠some t:=λ k hk hd=>hex ⟨k,hk,hd⟩;obtain⟨e1,e2⟩:=gI l es t π s0 (λ k hk=>ie k (hπ k hk));obtain⟨e3,e4⟩:=gI l es t π' s0 (λ k hk=>ie k (Xh k hk));exact⟨e1.trans e3.symm,e2.trans e4.symm⟩
def J2(acc:List Nat)(k:Nat):∀ (es:List Edge) (s:Nat),Nat.testBit (es.foldl (zm acc) s) k=true->Nat.testBit s k=true\/∃ e∈es,Region.binds .any e=true/\(k=e.on\/Nat.testBit (acc.getD e.on 0) k=true)
 | [],s,h => .inl h
 | e::es,s,h=>by
  simp only[b6H] at h;rcases J2 acc k es _ h with h|⟨e',EK,h⟩
  .unfold zm at h;split at h
   .rename_i hb;simp only[Nat.testBit_or,b5s] at h;rcases h with h|h|h
    .exact .inl h
    .refine .inr ⟨e,by simp,hb, .inl ?_⟩;rw[Nat.one_shiftLeft,Nat.testBit_two_pow] at h;exact (b4u h).symm
    .exact .inr ⟨e,by simp,hb, .inr h⟩
   .exact .inl h
  .exact .inr ⟨e',by simp[EK],h⟩
def BW:∀ (l:List Oper) (acc:List Nat),∃ r,bV l acc=acc++r/\r.length=l.length /\
  ∀ i o,l[i]?=some o->∀ k,Nat.testBit ((acc++r).getD (acc.length+i) 0) k=true->∃ e∈o.after.toList,Region.binds .any e=true/\(k=e.on\/(e.on<acc.length+i/\Nat.testBit ((acc++r).getD e.on 0) k=true))
 | [],acc=>⟨[],by simp[bV],rfl,by simp⟩
 | o::l,acc=>by
  simp only[bV];obtain⟨r,h1,h2,h3⟩:=BW l (acc++[o.after.toList.foldl (zm acc) 0]);refine⟨_::r,by rw[h1,b4H];rfl,by simp[h2],λ i p hp k hk=>?_⟩;cases i with
  | zero =>
   simp at hp;subst hp;have l9:Nat.testBit (o.after.toList.foldl (zm acc) 0) k=true:=by
    simpa [List.getD_eq_getElem?_getD] using hk
   rcases J2 acc k _ 0 l9 with h|⟨e,he,hb,h⟩
   .simp at h
   .refine⟨e,he,hb,h.imp id λ h=>?_⟩;have bN:e.on<acc.length:=by
     rcases b4J e.on acc.length with hl|hl
     .exact hl
     .simp[b3V,b5H hl] at h
    refine⟨by omega,?_⟩;rw[b3V,b5J bN,<-b3V];exact h
  | succ i =>
   have:=h3 i p (by simpa using hp) k (by
    have e1:(acc++[o.after.toList.foldl (zm acc) 0]).length+i=acc.length+(i+1):=by simp;omega
    rw[e1,b4H];exact hk)
   obtain⟨e,he,hb,h⟩:=this;refine⟨e,he,hb,h.imp id λ ⟨h1,h2⟩=>⟨by simp at h1;omega,?_⟩⟩;rw[b4H] at h2;exact h2
def DQ:∀ (l:List Nat) (i m0:Nat),m0<=i->oR l i m0<=i+l.length/\m0<=oR l i m0/\∀ j b,l[j]?=some b->oR l i m0<=i+j->b+1=2 ^ (i+j)
 | [],i,m0,h=>by simp[oR];exact h
 | b::l,i,m0,h=>by
  simp only[oR];split
  .rename_i hb;have hb:=b3G hb;obtain⟨h1,h2,h3⟩:=DQ l (i+1) m0 (by omega);refine⟨by simp;omega,h2,λ j b' hj hle=>?_⟩;cases j with
   | zero=>simp at hj;subst hj;exact hb
   | succ j=>rw[show i+(j+1)=i+1+j by omega];exact h3 j b' (by simpa using hj) (by omega)
  .obtain⟨h1,h2,h3⟩:=DQ l (i+1) (i+1) (b4r _);refine⟨by simp;omega,by omega,λ j b' hj hle=>?_⟩;cases j with
   | zero=>omega
   | succ j=>rw[show i+(j+1)=i+1+j by omega];exact h3 j b' (by simpa using hj) (by omega)
theorem zr(l:List Oper)(es:List Rv)(s0:ah)(π:List Nat)(i:Nat):dR l es s0 (π++[i])=(dR l es s0 π).jC (cD l i) (es.getD i ⟨false, .any,none⟩).v (es.getD i ⟨false, .any,none⟩).ob:=by
 simp[dR,List.foldl_append]
theorem a0u{E:Env}{l:List Oper}{m:Nat}{cm:List Nat}{s0:ah}:∀ (r:List Oper) (i:Nat) (es Di:List Rv) (s s':ah),Trace E l m cm i r es s s'->(∀ j o,r[j]?=some o->l[i+j]?=some o)->Di.length=i ->
  s=dR l (Di++es) s0 (List.range i) ->
  (∀ j o,r[j]?=some o->VV E l m (cm.getD (i+j) 0) (dR l (Di++es) s0 (List.range (i+j))) o ((Di++es).getD (i+j) ⟨false, .any,none⟩))/\s'=dR l (Di++es) s0 (List.range (i+r.length))
 | [],i,[],Di,s,s',h,_,_,hs=>by
  have h:s=s':=h;subst h;exact⟨by simp,by simpa using hs⟩
 | o::r,i,e::es,Di,s,s',h,hl,h0,hs=>by
  obtain⟨h1,h2⟩:=h;have ho:l[i]?=some o:=hl 0 o rfl;have a2l:(Di++e::es).getD i ⟨false, .any,none⟩=e:=by simp[b3V,<-h0]
  have cv:s.jC o.dst e.v e.ob=dR l ((Di++[e])++es) s0 (List.range (i+1)):=by
   rw[b4H,List.range_succ,zr,b6e,a2l,<-hs];simp[cD,ho]
  have ih:=a0u r (i+1) es (Di++[e]) _ s' h2 (λ j p hj=>by
   have:=hl (j+1) p (by simpa using hj);rwa [show i+(j+1)=i+1+j by omega] at this) (by simp[h0]) cv
  rw[b4H,b6e] at ih;refine⟨λ j p hj=>?_,by rw[ih.2];congr 2;simp;omega⟩;cases j with
  | zero =>
   simp at hj;subst hj;rw[b5D,a2l,<-hs];exact h1
  | succ j =>
   have:=ih.1 j p (by simpa using hj);rwa [show i+1+j=i+(j+1) by omega] at this
 | [],_,_::_,_,_,_,h,_,_,_=>h.elim
 | _::_,_,[],_,_,_,h,_,_,_=>h.elim
theorem zq:∀ (m:Nat) (π:List Nat),π.Nodup->(∀ k∈π,k<m)->π.length<=m
 | 0,π,_,h=>by
  cases π with
  | nil=>simp
  | cons k r=>exact absurd (h k (by simp)) (by omega)
 | m+1,π,hn,h=>by
  by_cases hm:m∈π
  .have h1:=zq m (π.erase m) (hn.erase m) (λ k hk=>by
    have h2:=(hn.mem_erase_iff).1 hk;have:=h k h2.2;have:=h2.1;omega)
   have h3:=b5M hm;have:0<π.length:=b5R hm;omega
  .have:=zq m π hn (λ k hk=>by
    have:=h k hk;have:k≠m:=λ e=>by subst e;exact hm hk
    omega)
   omega
section
variable {c:Ctx} {G:Gh} {s:ah} {a:Act} {w w':World}
theorem C1.ed{lk:Nat->Option aD}{v:AV}{x:Value}(h:C1 c G lk w v x){d:Nat}(hr:v.refs d=true):lk d≠none:=by
 cases v with
 | ptr i o =>
  have:=b3G (show Nat.beq i d=true from hr);subst this;obtain⟨_,_,_,h3⟩:=h;intro e;rw[e] at h3;cases h3
 | row i =>
  have:=b3G (show Nat.beq i d=true from hr);subst this;obtain⟨_,h3,_⟩:=h;intro e;rw[e] at h3;cases h3
 | eB i k o =>
  have:=b3G (show Nat.beq i d=true from hr);subst this;obtain⟨_,_,_,_,_,_,_,h3,_⟩:=h;intro e;rw[e] at h3;cases h3
 | aw i =>
  have:=b3G (show Nat.beq i d=true from hr);subst this;intro e;have h1:=h.1;rw[e] at h1;cases h1
 | sub i k o z =>
  have:=b3G (show Nat.beq i d=true from hr);subst this;intro e;have h1:=h.1;rw[e] at h1;cases h1
 | eU i k o z =>
  have:=b3G (show Nat.beq i d=true from hr);subst this;intro e;have h1:=h.1;rw[e] at h1;cases h1
 | mp i =>
  have:=b3G (show Nat.beq i d=true from hr);subst this;intro e;have h1:=h.2.1;rw[e] at h1;cases h1
 | agg cs=>exact h.elim
 | iR cs=>exact h.elim
 | di f cs=>exact h.elim
 | _=>cases hr
theorem qD{d:Nat}:∀ {cs:List AV},AV.gf d cs=true->∃ v∈cs,v.refs d=true
 | v::r,h=>by
  simp only[AV.gf] at h;split at h
  .rename_i hv;exact⟨v,by simp,hv⟩
  .obtain⟨u,hu,hr⟩:=qD h;exact⟨u,by simp[hu],hr⟩
theorem aV.mem_left{α β:Type}{R:α->β->Prop}:∀ {Z9:List α} {bs:List β},aV R Z9 bs->∀ x∈Z9,∃ y,R x y
 | _::_,b::_,h,x,hx=>by
  rcases b3Z.1 hx with rfl|hx
  .exact⟨b,h.1⟩
  .exact aV.mem_left h.2 x hx
theorem VR.ed{lk:Nat->Option aD}{v:AV}{x:Value}(h:VR c G lk w v x){d:Nat}(hr:v.refs d=true):lk d≠none:=by
 cases v with
 | aI u=>cases hr
 | agg cs =>
  obtain⟨l,_,hl⟩:=h;obtain⟨u,hu,I6⟩:=qD (show AV.gf d cs=true from hr);obtain⟨y,hy⟩:=hl.mem_left u hu;exact hy.ed I6
 | iR vs =>
  obtain⟨l,_,hl⟩:=h;obtain⟨u,hu,I6⟩:=qD (show AV.gf d vs=true from hr);obtain⟨y,hy⟩:=hl.mem_left u hu;cases u with
  | aw i=>exact C1.ed (c:=c) (G:=G) (w:=w) (v := .aw i) hy I6
  | agg cs =>
   obtain⟨l,_,hl⟩:=hy;obtain⟨u,hu,I6⟩:=qD (show AV.gf d cs=true from I6);obtain⟨y,hy⟩:=hl.mem_left u hu;exact hy.ed I6
  | _=>first|(cases I6;done)|exact hy.elim
 | di f vs =>
  obtain⟨l,_,hl⟩:=h;obtain⟨u,hu,I6⟩:=qD (show AV.gf d vs=true from hr);obtain⟨y,hy⟩:=hl.mem_left u hu;rcases hy.inv with ⟨v,rfl,_⟩|⟨cs,l,rfl,_,hl⟩|h1
  .cases I6
  .obtain⟨u,hu,I6⟩:=qD (show AV.gf d cs=true from I6);obtain⟨y,hy⟩:=hl.mem_left u hu;exact hy.ed I6
  .exact h1.ed I6
 | ptr i o=>exact C1.ed (c:=c) (G:=G) (w:=w) (v := .ptr i o) h hr
 | row i=>exact C1.ed (c:=c) (G:=G) (w:=w) (v := .row i) h hr
 | eB i k o=>exact C1.ed (c:=c) (G:=G) (w:=w) (v := .eB i k o) h hr
 | aw i=>exact C1.ed (c:=c) (G:=G) (w:=w) (v := .aw i) h hr
 | sub i k o z=>exact C1.ed (c:=c) (G:=G) (w:=w) (v := .sub i k o z) h hr
 | eU i k o z=>exact C1.ed (c:=c) (G:=G) (w:=w) (v := .eU i k o z) h hr
 | mp i=>exact C1.ed (c:=c) (G:=G) (w:=w) (v := .mp i) h hr
 | _=>cases hr
theorem Inv.X3(h:Inv c G s a w){d:Nat}(hd:s.af d=none):(∀ i,(s.sl i).refs d=false)/\∀ i o,s.af i=some o->o.refs d=false:=by
 refine⟨λ i=>?_,λ i o ho=>?_⟩
 .cases hr:(s.sl i).refs d with
  | false=>rfl
  | true=>exact absurd hd ((h.aB i).ed hr)
 .cases o with
  | row e τ xs=>rfl
  | aw τ xs=>rfl
  | map m=>rfl
  | box cs =>
   cases hr:aD.refs d (.box cs) with
   | false=>rfl
   | true =>
    obtain⟨b,l,t,_,_,k3⟩:=h.aN i _ ho;obtain⟨u,hu,I6⟩:=qD (show AV.gf d cs=true from hr);obtain⟨y,hy⟩:=k3.mem_left u hu;exact absurd hd (hy.ed I6)
theorem T3(h0:Inv c G s a w){d:Option Nat}{v:AV}{ob:Option aD}{a':Act}(Nz:wK d=true)(xm:∀ i o,d=some i->ob=some o->s.af i=none)(h:BV c G s.sl s.aB.length s.af d a w v ob a' w') :
  ∃ G',Inv c G' (s.jC d v ob) a' w':=by
 obtain⟨x,S',rfl,hI,hx⟩:=h;cases ob with
 | none =>
  refine⟨⟨S',G.η,G.φ⟩,?_⟩;have:s.jC d v none=s.put d v:=by cases d<;>rfl
  rw[this];exact Inv.put (s:=s) hI hx
 | some o =>
  obtain⟨hL,hN,hb⟩:=hx;have hd:∃ i,d=some i:=by cases o<;>first|exact⟨_,hL.choose_spec.1⟩|exact hL.elim
  obtain⟨i,rfl⟩:=hd;have hi:=xm i o rfl rfl;have BO:Inv c ⟨S',G.η,G.φ⟩ s a w':=hI;obtain⟨W3,YX⟩:=BO.X3 hi;have hor:o.refs i=false:=by
   cases o with
   | row e τ xs=>rfl
   | aw τ xs=>rfl
   | map m=>rfl
   | box cs =>
    cases hr:aD.refs i (.box cs) with
    | false=>rfl
    | true =>
     obtain⟨b,l,t,_,_,k3⟩:=hN;obtain⟨u,hu,I6⟩:=qD (show AV.gf i cs=true from hr);obtain⟨y,hy⟩:=k3.mem_left u hu;exact absurd hi (hy.ed I6)
  have sN:OR c ⟨S',λ j=>if j=i then x else G.η j,G.φ⟩ (λ j=>if j=i then some o else s.af j) w' i o:=by
   cases o with
   | box cs =>
    obtain⟨b,l,t,k1,k2,k3⟩:=hN;refine⟨b,l,t,by simp[k1],k2,k3.imp λ u y hu hy=>hy.mono (λ j hj=>?_) (λ _ h=>h) (λ _ _=>rfl)⟩;have eZ:j≠i:=λ e=>by
     subst e;have:=mX hu hj;rw[show AV.gf j cs=aD.refs j (.box cs) from rfl,hor] at this;cases this
    simp only[b3R eZ];exact⟨eF.refl _,U⟩
   | row e τ xs =>
    obtain⟨l,k1,k2,k3⟩:=hN;exact⟨l,by simpa using k1,k2,k3⟩
   | aw τ xs=>exact hN.elim
   | map m =>
    obtain⟨b,es,clock,k1,k2,k3⟩:=hN;exact⟨b,es,clock,by simp[k1],k2,k3⟩
  have hot:cx (some o)=false:=by
   cases o with
   | aw τ xs=>exact hN.elim
   | _=>rfl
  have h4:=bw.newObj BO i o x hi W3 YX hor sN hot (.inr (b4w Nz)) (λ b RZ=>by
   obtain⟨q1,q2,q3⟩:=hb b RZ;have hle:=h0.aR.size;refine⟨by omega,q3,q2,λ j p hjp Uy=>?_,λ j τ xs hj Uy=>?_⟩
   .have:=(h0.place j p b hjp Uy).2.2;omega
   .have:=(h0.aP.pl j τ xs b hj Uy).2.2.1;omega)
  refine⟨⟨S',λ j=>if j=i then x else G.η j,G.φ⟩,?_⟩;unfold Inv;have cF:(s.jC (some i) v (some o)).af=λ j=>if j=i then some o else s.af j:=by
   funext j;rw[Gr];by_cases hj:j=i
   .subst hj;simp
   .have:¬ (some i=some j):=by simp;exact λ e=>hj e.symm
    rw[b3R this,b3R hj]
  rw[Re,cF,Sy];refine bw.put h4 ?_;cases o with
  | box cs =>
   obtain⟨j,hj,rfl⟩:=hL;simp only[b3C] at hj;subst hj;obtain⟨b,l,t,k1,k2,k3⟩:=hN;exact⟨b,by simp[k1],k1,by simp[fZ]⟩
  | row e τ xs =>
   obtain⟨j,hj,rfl⟩:=hL;simp only[b3C] at hj;subst hj;obtain⟨l,k1,k2,k3⟩:=hN;refine⟨by simp,by simp[isRow],?_⟩;rcases k1.2 with ⟨rfl,_⟩|⟨g,cap,cur,rfl,_⟩
   .exact⟨_,_,_,rfl⟩
   .exact⟨_,_,_,rfl⟩
  | aw τ xs=>exact hN.elim
  | map m =>
   obtain⟨j,hj,rfl⟩:=hL;simp only[b3C] at hj;subst hj;obtain⟨b,es,clock,k1,k2,k3⟩:=hN;exact⟨by simp,by simp[NL],b,k1⟩
theorem a3F(h:Inv c G s a w)(o:Oper):Inv c G (s.fresh o) a w:=by
 unfold ah.fresh;split
 .rename_i d _ _;obtain⟨h1,_,_⟩:=h.clear d;have cF:ah.af { s.cp d with aN:=bS d (s.cp d).aN }=λ i=>if i=d then none else (s.cp d).af i:=by
   funext i;exact eC d _ i
  unfold Inv;show bw c G (s.cp d).sl (s.cp d).aB.length (ah.af { s.cp d with aN:=bS d (s.cp d).aN }) a w;rw[cF,show (s.cp d).aB.length=s.aB.length from by simp[ah.cp]];exact h1
 .exact h
theorem a2f(s:ah)(o:Oper)(j:Nat):(s.af j=none->(s.fresh o).af j=none)/\(zS o.op=true->o.dst=some j->(s.fresh o).af j=none):=by
 unfold ah.fresh;split
 .rename_i d hc hd;have cF:ah.af { s.cp d with aN:=bS d (s.cp d).aN } j=if j=d then none else (s.af j).map (aD.kill d):=by
   show af (bS d (s.cp d).aN) j=_;rw[eC];have:=congrFun (ef s d) j;show (if j=d then none else (s.cp d).af j)=_;rw[this]
  rw[cF];refine⟨λ h=>by rw[h];simp,λ _ hj=>?_⟩;rw[hd] at hj;simp only[b3C] at hj;rw[b4n hj.symm]
 .rename_i ie;exact⟨λ h=>h,λ hc hd=>(ie j hc hd).elim⟩
theorem FY:∀ (l:List Oper) {s:ah},Inv c G s a w->Inv c G (l.foldl ah.fresh s) a w
 | [],_,h=>h
 | o::r,_,h=>FY r (a3F h o)
theorem Dq:∀ (l:List Oper) (s:ah) (j:Nat),(s.af j=none->(l.foldl ah.fresh s).af j=none)/\(∀ o∈l,zS o.op=true->o.dst=some j->(l.foldl ah.fresh s).af j=none)
 | [],s,j=>⟨λ h=>h,by simp⟩
 | o::r,s,j=>by
  obtain⟨h1,h2⟩:=Dq r (s.fresh o) j;obtain⟨h3,h4⟩:=a2f s o j;refine⟨λ h=>h1 (h3 h),λ p hp hc hd=>?_⟩;rcases b3Z.1 hp with rfl|hp
  .exact h1 (h4 hc hd)
  .exact h2 p hp hc hd
theorem Wl{E:Env}{lk:Nat->Option aD}{f:FuncId}{Ts:List TypeId}{vs:List AV}{vc:Vc}{v:AV}{ob:Option aD}(h:J9 E lk f Ts vs=some (vc,v,ob)):ob=none:=by
 unfold J9 at h;repeat' split at h
 all_goals first
  | (simp only[b3C,b3F] at h;exact h.2.2.symm)
  | cases h
theorem TM{E:Env}{lk:Nat->Option aD}{g:AV}{Ts:List TypeId}{vs:List AV}{vc:Vc}{v:AV}{ob:Option aD}(h:Eu E lk g Ts vs=some (vc,v,ob)):ob=none:=by
 unfold Eu at h;split at h
 .rename_i r hr;repeat' split at hr
  all_goals first
   | (simp only[b3C] at hr h;subst hr;simp only[b3F] at h;exact h.2.2.symm)
   | cases hr
 .repeat' split at h
  all_goals first
   | (simp only[b3C,b3F] at h;exact h.2.2.symm)
   | cases h
theorem Q4{E:Env}{lk:Nat->Option aD}{ev:Operand->AV}{o:Oper}{vc:Vc}{v:AV}{ob:aD}(h:On E lk ev o=some (vc,v,some ob)):zS o.op=true:=by
 unfold On at h;split at h;case h_4 T bB=>rw[bB];rfl
 case h_5 T x bB=>rw[bB];rfl
 case h_7 T n ps bB=>rw[bB];rfl
 case h_21 T bB=>rw[bB];rfl
 case h_19 T x y bB=>rw[bB];rfl
 case h_20 cl bB =>
  split at h
  .repeat' split at h
   all_goals first
    | (simp at h;done)
    | cases h
  .rename_i gT;rw[bB];simp[zS,gT]
  .rename_i gT;repeat' (split at h)
   all_goals first|cases h|skip
  .exact absurd (Wl h) (by simp)
  .split at h
   .exact absurd (Wl h) (by simp)
   .exact absurd (TM h) (by simp)
   .exact absurd (TM h) (by simp)
   .cases h
  .cases h
 all_goals (repeat' split at h)
 all_goals first
  | (simp at h;done)
  | cases h
end
end Go.Proofs.YtmjfpcajohhbeaaGreatDoor

/- VmEff, VmTree, VmMark, VmOwnOps, VmBuild, VmBuild2, VmSt, VmStep, VmDraw, VmDraw2. -/
import Derived.Test.YtofnjfpeimhifaaGreatDoorVmOps
import Derived.Eval
set_option linter.all false
namespace Go.Proofs.YtofnjfpeimhifaaGreatDoor
def b0S:=@List.getD_eq_getElem?_getD
def b2M:=@Array.eq_empty_of_size_eq_zero
def b5p:=@Go.setRow_heap
def b4M:=@Nat.min_eq_left
def b2U:=@List.drop_eq_nil_of_le
def b1P:=@List.length_set
def b4r:=@List.size_toArray
def b2b:=@List.map_append
def b2p:=@Go.Value.tuple.injEq
def b4y:=@List.toArray_inj
def b1O:=@List.mem_cons_of_mem
def b1e:=@List.nodup_append
def b1B:=@List.cons_append
def b1V:=@List.nodup_nil
def b1q:=@List.nodup_cons
def b2q:=@List.take_append_drop
def b4z:=@List.map_set
def b3q:=@List.set_append_right
def b4O:=@List.append_eq_nil_iff
def b4A:=@List.eq_of_mem_replicate
def b2m:=@Bool.or_eq_true
def b3k:=@Nat.lt_irrefl
def b5d:=@Array.toList_append
def b2X:=@List.mem_cons_self
def b2x:=@List.mem_range
def b3F:=@Classical.byContradiction
def b3Q:=@List.nodup_range
def b3m:=@List.Nodup.length_le_of_subset
def b2n:=@Go.Oper.wp_mono
def b3r:=@List.getElem?_eq_none
def b3g:=@Option.getD_some
def b2N:=@List.foldl_cons
def b2Y:=@List.foldl_append
def b4N:=@List.range_succ
def b3s:=@List.singleton_append
def b2O:=@List.length_erase_of_mem
def b2V:=@List.length_pos_of_mem
theorem D5(f:aB->aB):∀ (l:List (Nat×aB)) (j:Nat),ai (l.map λ p=>(p.1,f p.2)) j=(ai l j).map f
 | [],_=>rfl
 | (k,o)::r,j=>by
  simp only[b1p,ai];split
  .rfl
  .exact D5 f r j
theorem er(id:Nat):∀ (l:List (Nat×aB)) (j:Nat),ai (bF id l) j=if j=id then none else ai l j
 | [],_=>by simp[bF,ai]
 | (k,o)::r,j=>by
  simp only[bF];split
  .rename_i h;have h:=b0L h;subst h;rw[er k r j];by_cases hj:j=k
   .simp[hj]
   .rw[b0N hj,b0N hj];simp only[ai];split
    .rename_i h;exact absurd (b0L h).symm hj
    .rfl
  .rename_i h;have hk:k≠id:=λ e=>by subst e;simp at h
   simp only[ai];split
   .rename_i h';have h':=b0L h';subst h';rw[b0N hk]
   .exact er id r j
theorem dx(k:Nat)(o:aB)(l:List (Nat×aB))(j:Nat):ai ((k,o)::l) j=if j=k then some o else ai l j:=by
 simp only[ai];split
 .rename_i h;rw[b0T (b0L h).symm]
 .rename_i h;have:j≠k:=λ e=>by subst e;simp at h
  rw[b0N this]
theorem oB(l:List AV)(d:Nat)(v:AV)(o:List (Nat×aB)):aj.sl ⟨l.set d v,o⟩=iY l.length (aj.sl ⟨l,o⟩) (some d) v:=by
 funext i;simp only[aj.sl,iY,b0S,List.getElem?_set,b0J];by_cases h:d=i
 .subst h;by_cases hl:d<l.length
  .simp[hl]
  .simp[hl]
 .simp[h]
theorem Zd(s:aj)(d:Option Nat)(v:AV):(s.put d v).sl=iY s.aC.length s.sl d v:=by
 cases d with
 | none=>funext i;simp[aj.put,iY]
 | some d=>exact oB s.aC d v s.aJ
theorem RY(s:aj)(d:Option Nat)(v:AV):(s.put d v).ai=s.ai:=by cases d<;>rfl
theorem L6(s:aj)(d:Option Nat)(v:AV):(s.put d v).aC.length=s.aC.length:=by cases d<;>simp[aj.put]
theorem Sb(s:aj)(id:Nat):(s.bU id).sl=λ i=>(s.sl i).kill id:=by
 funext i;simp only[aj.sl,aj.bU,b0S,b2i];cases s.aC[i]?<;>simp[AV.kill,AV.refs]
theorem dV(s:aj)(id:Nat):(s.bU id).ai=λ i=>(s.ai i).map (aB.kill id):=by
 funext i;exact D5 _ _ _
section
variable {c:Ctx} {G:Gh} {s:aj} {a:Act} {w w':World}
theorem Inv.put(h:Inv c G s a w){d:Option Nat}{v:AV}{x:Value}(hv:VR c G s.ai w v x):Inv c G (s.put d v) (a.put d x) w:=by
 unfold Inv;rw[Zd,RY,L6];exact bh.put h hv
theorem Inv.clear(h:Inv c G s a w)(id:Nat):bh c G (s.bU id).sl s.aC.length (λ i=>if i=id then none else (s.bU id).ai i) a w /\
  (∀ i,((s.bU id).sl i).refs id=false)/\∀ i o,(s.bU id).ai i=some o->o.refs id=false:=by
 have h1:=bh.bU h id;have hs:∀ i,((s.bU id).sl i).refs id=false:=λ i=>by rw[Sb];exact Al id _
 have ho:∀ i o,(s.bU id).ai i=some o->o.refs id=false:=λ i o cr=>by
  rw[dV] at cr;simp only[b1s] at cr;obtain⟨o',_,rfl⟩:=cr;cases o' with
  | box cs=>exact Dy id cs
  | row e τ xs=>rfl
  | aE τ xs=>rfl
  | map m=>rfl
 refine⟨?_,hs,ho⟩;rw[Sb,dV];exact bh.a3C h1 id (λ i=>Al id _) (λ i o cr _=>by
  have:=ho i o (by rw[dV];exact cr);exact this)
theorem Q2(id:Nat)(o:aB):(o.kill id).refs id=false:=by
 cases o with
 | box cs=>exact Dy id cs
 | row e τ xs=>rfl
 | aE τ xs=>rfl
 | map m=>rfl
theorem Inv.YN(h:Inv c G s a w){id:Nat}{v:AV}{o:aB}{x:Value}(bz:id<400000)(hN:Yf c G s.ai w x o)(hL:LV (some id) v o)
  (hblk:∀ b,dw x=some b->(c.w0.heap.size<=b\/c.X b)/\¬ G.S b/\b<w.heap.size/\(∀ i o',i≠id->s.ai i=some o'->dw (G.η i)≠some b)/\∀ j τ xs,s.ai j=some (.aE τ xs)->b∉G.φ j) :
  Inv c ⟨G.S,λ i=>if i=id then x else G.η i,G.φ⟩ (s.lay (some id) v (some o)) (a.put (some id) x) w:=by
 obtain⟨h1,h2,h3⟩:=h.clear id;have bW:(s.lay (some id) v (some o)).ai=λ i=>if i=id then some (o.kill id) else (if i=id then none else (s.bU id).ai i):=by
  funext i;show ai ((id,o.kill id)::bF id (s.bU id).aJ) i=_;rw[dx,er];rfl
 have xx:(s.lay (some id) v (some o)).sl=iY s.aC.length (s.bU id).sl (some id) v:=by
  have:=oB (s.bU id).aC id v ((id,o.kill id)::bF id (s.bU id).aJ);rw[show (s.bU id).aC.length=s.aC.length from by simp[aj.bU]] at this;exact this
 have hlen:(s.lay (some id) v (some o)).aC.length=s.aC.length:=by simp[aj.lay,aj.bU]
 have oQ:OR c ⟨G.S,λ i=>if i=id then x else G.η i,G.φ⟩ (λ i=>if i=id then some (o.kill id) else (if i=id then none else (s.bU id).ai i)) w id (o.kill id):=by
  cases o with
  | box cs =>
   obtain⟨b,l,t,k1,k2,k3⟩:=hN;refine⟨b,l,t,by simp[k1],k2,aN.dG _ (k3.imp λ u y _ hy=>?_)⟩;refine (hy.kill id).mono (λ j hj=>?_) (λ _ h=>h) (λ _ _=>rfl);have dD:j≠id:=λ e=>by subst e;rw[Al] at hj;cases hj
   simp only[b0N dD];exact⟨by rw[dV];exact HA id _,ag⟩
  | row e τ xs =>
   obtain⟨l,k1,k2,k3⟩:=hN;exact⟨l,by simpa using k1,k2,k3⟩
  | aE τ xs=>exact hN.elim
  | map m =>
   obtain⟨b,es,clock,k1,k2,k3⟩:=hN;exact⟨b,es,clock,by simp[k1],k2,k3⟩
 have Vb:cS (some (o.kill id))=false:=by
  cases o with
  | aE τ xs=>exact hN.elim
  | _=>rfl
 have h4:=bh.newObj h1 id (o.kill id) x (by simp) h2 (λ i p sQ=>by
  by_cases hi:i=id
  .simp[hi] at sQ
  .rw[b0N hi] at sQ;exact h3 i p sQ) (Q2 id o) oQ Vb (.inr bz) (λ b hb=>by
  obtain⟨q1,q2,q3,q4,q5⟩:=hblk b hb;refine⟨q1,q2,q3,λ i p sQ=>?_,λ j τ xs hj=>?_⟩
  .by_cases hi:i=id
   .simp[hi] at sQ
   .rw[b0N hi,dV] at sQ;simp only[b1s] at sQ;obtain⟨p',IS,_⟩:=sQ;exact q4 i p' hi IS
  .by_cases hi:j=id
   .simp[hi] at hj
   .rw[b0N hi,dV] at hj;exact q5 j τ xs (iJ hj))
 unfold Inv;rw[xx,bW,hlen];refine bh.put h4 ?_;cases o with
 | box cs =>
  obtain⟨i,hi,rfl⟩:=hL;simp only[b0J] at hi;subst hi;obtain⟨b,l,t,k1,k2,k3⟩:=hN;exact⟨b,by simp[k1],k1,by simp[aB.kill,fI]⟩
 | row e τ xs =>
  obtain⟨i,hi,rfl⟩:=hL;simp only[b0J] at hi;subst hi;obtain⟨l,k1,k2,k3⟩:=hN;refine⟨by simp,by simp[aB.kill,isRow],?_⟩;rcases k1.2 with ⟨rfl,_⟩|⟨g,cap,cur,rfl,_⟩
  .exact⟨_,_,_,rfl⟩
  .exact⟨_,_,_,rfl⟩
 | aE τ xs=>exact hN.elim
 | map m =>
  obtain⟨i,hi,rfl⟩:=hL;simp only[b0J] at hi;subst hi;obtain⟨b,es,clock,k1,k2,k3⟩:=hN;exact⟨by simp,by simp[aB.kill,Ha],b,k1⟩
theorem Py(h0:Inv c G s a w){d:Option Nat}(GW:qL d=true){v:AV}{ob:Option aB}{a':Act}(h:vI c G s.sl s.aC.length s.ai d a w v ob a' w'):∃ G',Inv c G' (s.lay d v ob) a' w':=by
 obtain⟨x,S',rfl,hI,hx⟩:=h;cases ob with
 | none=>exact⟨_,by cases d<;>exact Inv.put (s:=s) hI hx⟩
 | some o =>
  obtain⟨hL,hN,hb⟩:=hx;have hd:∃ i,d=some i:=by cases o<;>first|exact⟨_,hL.choose_spec.1⟩|exact hL.elim
  obtain⟨i,rfl⟩:=hd;refine⟨_,Inv.YN (s:=s) hI (b1N GW) hN hL λ b xv=>?_⟩;obtain⟨h1,h2,h3⟩:=hb b xv;have hle:=h0.aM.size;refine⟨by omega,h3,h2,λ j o' _ hj MF=>?_,λ j τ xs hj MF=>?_⟩
  .have:=(h0.place j o' b hj MF).2.2;omega
  .have:=(h0.aR.pl j τ xs b hj MF).2.2.1;omega
theorem UC{k:IntKind}{n:Int}(h:Ot k n=true):k.min<=n/\n<=k.max:=by
 unfold Ot at h;split at h
 .rename_i m;split at h<;>have h:=b1N h<;>try (simp[IntKind.min,IntKind.max,IntKind.signed,IntKind.bits];omega)
  cases k<;>simp_all [IntKind.min,IntKind.max,IntKind.signed,IntKind.bits]<;>omega
 .rename_i m;split at h
  .have h:=b1N h;simp[IntKind.min,IntKind.max,IntKind.signed,IntKind.bits];omega
  .cases h
theorem E8(lk:Nat->Option aB)(v:Value):C1 c G lk w (Ib v) v:=by
 unfold Ib;split
 .split
  .rename_i h;exact⟨rfl,rfl,UC h⟩
  .trivial
 .exact⟨rfl,rfl⟩
 .split
  .rename_i sv _ h;have h:=b1N h;exact⟨rfl,sv,rfl,rfl,by have:sv.size=sv.data.size:=rfl;omega⟩
  .trivial
 .rfl
 .trivial
theorem aY(h:Inv c G s a w)(x:Operand):VR c G s.ai w (s.eval x) (a.eval x):=by
 cases x with
 | tmp t=>exact h.aC t
 | const v =>
  simp only[aj.eval,Act.eval];unfold UB;split
  .rename_i cs;refine⟨cs.toList,rfl,aN.dG _ ?_⟩;have:∀ l:List Value,aN (λ u y=>C1 c G s.ai w (Ib u) y) l l:=by
    intro l;induction l with
    | nil=>trivial
    | cons u r ih=>exact⟨E8 _ u,ih⟩
   exact this _
  .rename_i cs;split
   .rename_i hz;have:cs = #[]:=b2M (b0L hz);subst this;exact rfl
   .trivial
  .exact (E8 _ v).fE
 | global g=>trivial
 | func f=>rfl
theorem lh{g:Nat}{old cs:Array Value}{t:TypeId}{fr:Nat×Nat}(w:World)(hg:w.heap[g]?=some (.cells old t fr))(k:Nat)(hk:k≠g):(w.setRow g cs).heap[k]?=w.heap[k]?:=setRow_other w g k cs hk
theorem Ay(hE:bp c.P c.E){T:TypeId}{τ:Ty}{b e:Nat}(hT:ai c.E.ty T=some (τ,b,e)){g o:Nat}{l:List Value}{t:TypeId}{x:Value}(hg:w.heap[g]?=some (.cells l.toArray t (0,0)))
  (hx:x.cells.toList.length=τ.size) (h1:∀ u∈x.cells.toList,u.oneCell'=true) (CL:o+τ.size<=l.length) :
  (Instr.storeAt T (.pointer (some ⟨g,o,none⟩)) x).run c.P w = .ok () (w.setRow g (l.take o++x.cells.toList++l.drop (o+τ.size)).toArray):=by
 have hn:¬ (x.cells.size≠τ.size):=by simpa using hx
 simp only[Instr.storeAt,Instr.sureAddr,storeVar,Sem.run_bind,Sem.run_pure,Result.andThen_ok,hE.sizeOf hT,if_neg hn];have:=run_storeCells_at c.P g o t x.cells.toList 0 l.toArray w hg (by simp at hx ⊢;omega) h1;simpa [hx] using this
theorem Rb{cs new dC:List AV}{off:Nat}(h:putCells cs off new=some dC):off+new.length<=cs.length/\dC=cs.take off++(new++cs.drop (off+new.length)):=by
 unfold putCells at h;split at h
 .rename_i hb;simp only[b0J] at h;exact⟨b1N hb,h.symm⟩
 .cases h
theorem Inv.store(hE:bp c.P c.E)(h:Inv c G s a w){T:TypeId}{τ:Ty}{bt e:Nat}(hT:ai c.E.ty T=some (τ,bt,e)){id off:Nat}{cs new dC:List AV}{x p:Value}(aU:s.ai id=some (.box cs))(hp:VR c G s.ai w (.ptr id off) p)
  (oQ:∃ v,cellsOf τ v=some new/\VR c G s.ai w v x) (yz:putCells cs off new=some dC) :
  ∃ w',(Instr.storeAt T p x).run c.P w = .ok () w'/\Inv c G { s with aJ:=(id, .box dC)::bF id s.aJ } a w':=by
 obtain⟨v,hv,hx⟩:=oQ;obtain⟨h1,h2,h3⟩:=xg hv hx;obtain⟨h4,rfl⟩:=Rb yz;obtain⟨b,k1,rfl,_⟩:=hp;obtain⟨b',l,t,k2,k3,k4⟩:=h.aJ id _ aU;rw[k1] at k2;simp only[b3i,b0J,b2E,b1i] at k2;subst k2;have hlen:=h1.length;have Z0:=k4.length;have cE:=Ay (c:=c) hE hT (o:=off) (x:=x) k3 (by omega) h2 (by omega);refine⟨_,cE,?_⟩;have xx:aj.sl { s with aJ:=(id, .box (cs.take off++(new++cs.drop (off+new.length))))::bF id s.aJ }=s.sl:=rfl;have bW:aj.ai { s with aJ:=(id, .box (cs.take off++(new++cs.drop (off+new.length))))::bF id s.aJ }=λ i=>if i=id then some (.box (cs.take off++(new++cs.drop (off+new.length)))) else s.ai i:=by
  funext i;show ai (_::bF id s.aJ) i=_;rw[dx,er];by_cases hi:i=id
  .simp[hi]
  .simp[hi];rfl
 unfold Inv;rw[xx,bW];have cf:∀ k,St c G.S k->(w.setRow b (l.take off++x.cells.toList++l.drop (off+τ.size)).toArray).heap[k]?=w.heap[k]?:=λ k hk=>lh w k3 k λ e=>by
  subst e;obtain⟨q1,q2,q3⟩:=h.place id _ k aU (by rw[k1];rfl);rcases hk with hk|hk
  .exact q2 hk
  .exact q1.elim (λ q=>by omega) hk.2.1
 have fi:∀ j,ew (s.ai j) ((λ i=>if i=id then some (aB.box (cs.take off++(new++cs.drop (off+new.length)))) else s.ai i) j):=λ j=>by
  by_cases hj:j=id
  .subst hj;simp only[b2G];exact⟨λ _=>rfl,(λ e τ xs hh=>by rw[aU] at hh;cases hh),(λ hh=>by rw[aU] at hh;cases hh),λ hh=>by rw[aU] at hh;cases hh⟩
  .simp only[b0N hj];exact ew.refl _
 refine bh.TJ h id _ _ b aU (by rw[k1];rfl) ⟨λ _=>rfl,(λ e τ xs hh=>by cases hh),(λ hh=>by cases hh),λ hh=>by cases hh⟩ rfl (λ k hk=>lh w k3 k hk) rfl rfl rfl (by simp[World.setRow]) ?_;refine⟨b,_,t,k1,b5p w b _ _ t _ k3,?_⟩;have key:aN (C1 c G s.ai w) (cs.take off++(new++cs.drop (off+new.length))) (l.take off++x.cells.toList++l.drop (off+τ.size)):=by
  rw[b1o,<-h3];exact aN.append (k4.take off) (aN.append h1 (k4.drop _))
 exact key.imp λ u y _ hy=>hy.mono (λ j _=>⟨fi j,rfl⟩) (λ _ h=>h) cf
theorem PB(cur bO:List Value)(o sz N:Nat)(hv:bO.length=sz)(hN:o+sz<=N)(hc:N<=cur.length) :
  (cur.take o++bO++cur.drop (o+sz)).take N=(cur.take N).take o++bO++(cur.take N).drop (o+sz):=by
 have h1:(cur.take o++bO).length=o+sz:=by simp[hv];omega
 rw[b4w,h1,b1I (by omega),List.take_take,b4M (by omega),List.drop_take]
theorem dj.a5D{S:Nat->Prop}{n:Nat}{d':D}{c':List Value}(hd:Rd w S d' c')(sS:c'.length=n):∀ (ds:List D) {l:List Value} (i:Nat),dj w S ds l->(∀ d∈ds,d.size=n)->i<ds.length->dj w S (ds.set i d') (l.take (i * n)++c'++l.drop (i * n+n))
 | [],l,i,_,_,hi=>by simp at hi
 | e::ds,l,0,h,hn,_=>by
  obtain⟨c1,r,rfl,h2,h3⟩:=h;have hc:c1.length=n:=by rw[Rd.length _ h2];exact hn _ (by simp)
  refine⟨c',r,?_,hd,h3⟩;simp only[b3V,b2T,b1v,b2l];rw[<-hc,b3d]
 | e::ds,l,i+1,h,hn,hi=>by
  obtain⟨c1,r,rfl,h2,h3⟩:=h;have hc:c1.length=n:=by rw[Rd.length _ h2];exact hn _ (by simp)
  refine⟨c1,r.take (i * n)++c'++r.drop (i * n+n),?_,h2,dj.a5D hd sS ds i h3 (λ d hd=>hn d (by simp[hd])) (by simpa using hi)⟩;have e1:(i+1) * n=c1.length+i * n:=by rw[Nat.add_mul,hc];omega
  rw[e1,b4w,b1I (by omega),show c1.length+i * n - c1.length=i * n by omega,b3B,List.drop_append,b2U (by omega),b1v,
   show c1.length+(i * n+n) - c1.length=i * n+n by omega]
  simp
theorem Inv.a0q(hE:bp c.P c.E)(h:Inv c G s a w){T:TypeId}{τ:Ty}{bt e:Nat}(hT:ai c.E.ty T=some (τ,bt,e)){id i:Nat}{e':TypeId}{xs:List τ.den}{v:AV}{y:τ.den}{x p:Value}(aU:s.ai id=some (.row e' τ xs))
  (hp:VR c G s.ai w (.ep id i 0) p) (hx:VR c G s.ai w v x) (hy:sO (λ _=>none) τ v=some y) :
  ∃ w',(Instr.storeAt T p x).run c.P w = .ok () w'/\Inv c G { s with aJ:=(id, .row e' τ (xs.set i y))::bF id s.aJ } a w':=by
 obtain⟨b,n,cap,e1,Nq,QH,k1,k2,k3,rfl⟩:=hp;rw[aU] at k2;simp only[b0J,aB.row.injEq] at k2;obtain⟨rfl,rfl,k2⟩:=k2;have k2:=b3G k2;subst k2;have hr:=(xQ hy hx).cells;have rE:x.cells.toList.length=τ.size:=by
  have:=Rd.length _ hr;rwa [show TV.aK ⟨τ,y⟩=τ.aK y from rfl,Ty.cz] at this
 have uo:∀ u∈x.cells.toList,u.oneCell'=true:=Rd.jF (x:=y) hr;obtain⟨l,m1,m2,m3⟩:=h.aJ id _ aU;have cj:∀ d∈xs.map τ.aK,d.size=τ.size:=by
  intro d hd;obtain⟨z,_,rfl⟩:=b0P.1 hd;exact Ty.cz τ z
 have Z0:=dj.length _ m2 cj;simp only[b1F] at Z0;have CL:i * τ.size+τ.size<=xs.length * τ.size:=by
  have:=b2u τ.size (show i+1<=xs.length by omega);rw[b1Q] at this;omega
 rcases m1.2 with ⟨hv,_⟩|⟨g,Om,cur,hv,_,hh,QX,W9,iP,htk⟩
 .rw[k1] at hv;cases hv
 .rw[k1] at hv;simp only[b2z,b0J,b2E,b1i] at hv;obtain⟨rfl,rfl,rfl⟩:=hv;have vE:xs.length * τ.size<=cur.toList.length:=by
   rw[b1K (xs:=cur),iP];exact b2u _ QX
  have cE:=Ay (c:=c) (l:=cur.toList) hE hT (o:=i * τ.size+0) (x:=x) (by simpa using hh) rE uo (by omega);refine⟨_,cE,?_⟩;have bW:aj.ai { s with aJ:=(id, .row e' τ (xs.set i y))::bF id s.aJ }=λ j=>if j=id then some (.row e' τ (xs.set i y)) else s.ai j:=by
   funext j;show ai (_::bF id s.aJ) j=_;rw[dx,er];by_cases hj:j=id
   .simp[hj]
   .simp[hj];rfl
  unfold Inv;rw[bW];refine bh.TJ h id _ _ b aU (by rw[k1];rfl) ⟨λ hh=>(by cases hh),λ e2 jr lK hh=>?_,(λ hh=>by cases hh),λ hh=>by cases hh⟩ rfl (λ k hk=>lh w hh k hk) rfl rfl rfl (by simp[World.setRow]) ?_
  .simp only[b0J,aB.row.injEq] at hh;obtain⟨rfl,rfl,hh⟩:=hh;have hh:=b3G hh;subst hh;exact⟨_,_,rfl,by simp⟩
  .refine⟨(l.take (i * τ.size)++x.cells.toList++l.drop (i * τ.size+τ.size)),⟨?_, .inr ⟨b,cap,_,by simpa using k1,Nat.zero_le _,setRow_heap w b cur _ e' _ hh,by simpa using QX,W9,?_,?_⟩⟩,?_,by simpa using m3⟩
   .rw[b1P,b0Y,b0Y,b1T,b1Z,rE,Z0];omega
   .rw[b4r,b0Y,b0Y,b1T,b1Z,rE,<-iP,<-b1K (xs:=cur)];omega
   .simp only[b2L,b1P];rw[PB _ _ _ _ _ rE CL vE,htk]
   .rw[List.map_set];have:=dj.a5D hr (by rw[rE]) _ i m2 cj (by simpa using k3);refine dj.aM (λ _ h=>h) (λ k hk=>lh w hh k λ e=>?_) _ this;subst e;exact (h.place id _ k aU (by rw[k1];rfl)).2.1 hk
theorem Inv.D6(hE:bp c.P c.E)(h:Inv c G s a w){T:TypeId}{κ ε:Ty}(hT:ai c.E.Ja T=some (κ,ε)){id:Nat}{f:κ.den->Option ε.den}{n:Nat}(aU:s.ai id=some (.map ⟨κ,ε,f,n⟩))
  {k:κ.den} {x:ε.den} {p y z:Value} (hp:VR c G s.ai w (.mp id) p) (hy:dI w G.S ⟨κ,k⟩ y) (hz:dI w G.S ⟨ε,x⟩ z) (hn:n<1000000000) :
  ∃ w',(Instr.mapUpdate T p y z).run c.P w = .ok () w'/\Inv c G { s with aJ:=(id, .map ⟨κ,ε,fb f k x,gv (f k) n⟩)::bF id s.aJ } a w':=by
 obtain⟨kT,eT,u1,u2,u3,u4,_⟩:=hE.map hT w;obtain⟨b,es,clock,k1,k2,k3⟩:=h.aJ id _ aU;have sc:∀ {τ:Ty} {q:τ.den} {v:Value},τ.key=true->dI w G.S ⟨τ,q⟩ v->nF τ q v:=λ {τ q v} hs hv=>by
  refine nF.of (w:=w) (S:=G.S) hs ?_;cases τ with
  | int _=>exact hv
  | bool=>exact hv
  | str=>exact hv
  | _=>cases hs
 obtain⟨UL,Nw,m1,m2⟩:=k3.store (P:=c.P) u1 u2 k2 (zp.of u3 hy) (sc u4 hz) hn;obtain⟨Vd,_⟩:=hp;refine⟨_,by rw[Vd,k1];exact m1,?_⟩;have bW:aj.ai { s with aJ:=(id, .map ⟨κ,ε,fb f k x,gv (f k) n⟩)::bF id s.aJ }=λ i=>if i=id then some (.map ⟨κ,ε,fb f k x,gv (f k) n⟩) else s.ai i:=by
  funext i;show ai ((id,_)::bF id s.aJ) i=_;rw[dx,er];by_cases hi:i=id
  .simp[hi]
  .simp[hi];rfl
 unfold Inv;rw[bW];obtain⟨q1,q2⟩:=MapKept.heap_set (o' := .map UL Nw) k2;refine bh.TJ h id _ _ b aU (by rw[k1];rfl) ⟨λ hh=>(by cases hh),(λ e τ xs hh=>by cases hh),(λ hh=>by cases hh),λ _=>rfl⟩ rfl q2 rfl rfl rfl (by simp) ?_;exact⟨b,UL,Nw,k1,q1,m2⟩
theorem Inv.append(hE:bp c.P c.E)(h:Inv c G s a w){T:TypeId}{τ:Ty}{bt e id d:Nat}(hT:ai c.E.ty T=some (.slice τ,bt,e)){xs ys:List τ.den}{y:AV}{v z:Value}(aU:s.ai id=some (.row e τ xs))
  (hv:VR c G s.ai w (.row id) v) (hz:VR c G s.ai w y z) (hy:iR (Jf s.ai) (.slice τ) y=some ys) (z8:bC (xs.length+ys.length) bt) (ty:TypeId) :
  ∃ v' w' G',(Builtin.append_ #[T,T] ty #[v,z]).run c.P w = .ok v' w' /\
   Inv c G' { aC:=(s.bU id).aC.set d (.row id),aJ:=(id, .row e τ (xs++ys))::bF id (s.bU id).aJ } (a.put (some d) v') w':=by
 obtain⟨rfl,_,_⟩:=hv;have hzc:C1 c G s.ai w y z:=by
  refine hz.Se ?_;cases y with
  | aO u =>
   have e:=TV.aT hy;subst e;rfl
  | nil=>rfl
  | row i=>rfl
  | aE i=>rfl
  | _=>cases hy
 obtain⟨l,m1,m2,m3⟩:=h.aJ id _ aU;obtain⟨v',w',news,k1,k2,k3,k4,k5,k6⟩:=LA (w:=w) (base:=0) hE hT m1 (b1G _) (Yi h.aJ (Du λ _ _ h=>h) VD hy hzc) z8 ty;have MI:=pK m1;have a5j:=pK k2;obtain⟨h1,h2,h3⟩:=h.clear id;have fB:∀ b,dw (G.η id)=some b->(c.w0.heap.size<=b\/c.X b)/\¬ G.S b/\b<w.heap.size:=λ b hb=>h.place id _ b aU hb;have hw:∀ b,b<w.heap.size->dw (G.η id)≠some b->w'.heap[b]?=w.heap[b]?:=λ b hb dD=>k3.block b hb (by rw[MI];exact λ e=>dD e.symm);have cf:∀ b,St c G.S b->w'.heap[b]?=w.heap[b]?:=λ b hb=>by
  refine hw b ?_ λ e=>?_
  .rcases hb with hb|hb
   .exact h.dE b hb
   .exact b0V hb.1 h.aM.size
  .obtain⟨q1,q2,q3⟩:=fB b e;rcases hb with hb|hb
   .exact q2 hb
   .exact q1.elim (λ q=>by omega) hb.2.1
 have a9a:∀ j τ xs b,s.ai j=some (.aE τ xs)->b∈G.φ j->w'.heap[b]?=w.heap[b]?:=λ j τ xs b hj hb =>
  hw b (h.aR.pl j τ xs b hj hb).2.2.1 ((h.aR.pl j τ xs b hj hb).2.2.2 id _ aU)
 have yy:∀ j o b,j≠id->s.ai j=some o->dw (G.η j)=some b->w'.heap[b]?=w.heap[b]?:=λ j o b hj ho hb=>by
  refine hw b (h.place j o b ho hb).2.2 λ e=>?_;exact hj (h.apart j id o _ b ho aU hb e)
 have h4:bh c ⟨G.S,G.η,G.φ⟩ (s.bU id).sl s.aC.length (λ i=>if i=id then none else (s.bU id).ai i) a w':=by
  refine h1.world (S':=G.S) ⟨k3.os,k3.tape,k3.output,k3.size,λ b hb hx=>hw b hb λ e=>hx (fB b e).1⟩ (λ _ h=>h) (λ _ _=>b2F) h1.sX (λ b hb=>b0V (h1.dE b hb) k3.size) cf ?_ (λ j τ xs b hj hb=>by
   by_cases rD:j=id
   .simp[rD] at hj
   .rw[b0N rD,dV] at hj;exact a9a j τ xs b (iJ hj) hb)
  intro j o b hj hb;by_cases rD:j=id
  .simp[rD] at hj
  .rw[b0N rD,dV] at hj;simp only[b1s] at hj;obtain⟨o',cH,_⟩:=hj;exact yy j o' b rD cH hb
 have a6w:((xs++ys).length)=xs.length+ys.length:=by simp
 have h5:=bh.newObj h4 id (.row e τ (xs++ys)) v' (by simp) h2 (λ i p sQ=>by
  by_cases hi:i=id
  .simp[hi] at sQ
  .rw[if_neg hi] at sQ;exact h3 i p sQ) rfl ⟨l++news,by simpa using k2,by
    rw[b2b];exact dj.append _ _ (dj.aM (λ _ h=>h) (λ b hb=>cf b (.inl hb)) _ m2) (dj.aM (λ _ h=>h) (λ b hb=>cf b (.inl hb)) _ k5),by rw[a6w];exact k6⟩ rfl (.inl rfl) (λ b hb=>by
  have bz:=(k2.lt b (a5j.trans hb)).2;have uj:dw (G.η id)=some b\/b=w.heap.size:=by
   rw[<-a5j,] at hb;rcases k4 with q|q
   .left;rw[<-MI,<-q];exact hb
   .right;rw[q] at hb;exact (b1Y hb).symm
  refine⟨?_,?_,bz,λ j p ZY MF=>?_,λ j jr lK IP MF=>?_⟩
  .rcases uj with q|q
   .exact (fB b q).1
   .have:=h.aM.size;omega
  .rcases uj with q|q
   .exact (fB b q).2.1
   .intro hs;have:=h.dE b hs;omega
  .by_cases rD:j=id
   .simp[rD] at ZY
   .rw[b0N rD,dV] at ZY;simp only[b1s] at ZY;obtain⟨o',cH,_⟩:=ZY;rcases uj with q|q
    .exact rD (h.apart j id o' _ b cH aU MF q)
    .have:=(h.place j o' b cH MF).2.2;omega
  .by_cases rD:j=id
   .simp[rD] at IP
   .rw[b0N rD,dV] at IP;obtain⟨_,_,q3,q4⟩:=h.aR.pl j jr lK b (iJ IP) MF;rcases uj with q|q
    .exact q4 id _ aU q
    .omega)
 refine⟨v',w',⟨G.S,λ i=>if i=id then v' else G.η i,G.φ⟩,k1,?_⟩;unfold Inv;have bW:aj.ai { aC:=(s.bU id).aC.set d (.row id),aJ:=(id, .row e τ (xs++ys))::bF id (s.bU id).aJ }=λ i=>if i=id then some (.row e τ (xs++ys)) else (if i=id then none else (s.bU id).ai i):=by
  funext i;show ai (_::bF id (s.bU id).aJ) i=_;rw[dx,er];rfl
 have xx:aj.sl { aC:=(s.bU id).aC.set d (.row id),aJ:=(id, .row e τ (xs++ys))::bF id (s.bU id).aJ }=iY s.aC.length (s.bU id).sl (some d) (.row id):=by
  have:=oB (s.bU id).aC d (.row id) ((id, .row e τ (xs++ys))::bF id (s.bU id).aJ);rw[show (s.bU id).aC.length=s.aC.length from by simp[aj.bU]] at this;exact this
 rw[xx,bW,show ({ aC:=(s.bU id).aC.set d (.row id),aJ:=(id, .row e τ (xs++ys))::bF id (s.bU id).aJ }:aj).aC.length=s.aC.length from by simp[aj.bU]];refine bh.put h5 ⟨by simp,by simp[isRow],?_⟩;rcases k2.2 with ⟨rfl,_⟩|⟨g,cap,cur,rfl,_⟩
 .exact⟨_,_,_,rfl⟩
 .exact⟨_,_,_,rfl⟩
end
section
variable {c:Ctx} {G:Gh} {sl:Nat->AV} {n:Nat} {lk:Nat->Option aB} {a:Act} {w w':World}
theorem bh.PS(h:bh c G sl n lk a w)(id:Nat)(τ:Ty)(xs:List τ.den)(η0:Value)(fp:List Nat)(aU:lk id=none)(hs:∀ i,(sl i).refs id=false)(ho:∀ i o,lk i=some o->o.refs id=false)
  (a8u:c.R id=none) (hT:ij w η0 τ xs fp) (dh:fp.Nodup) (O7:∀ b∈fp,(c.w0.heap.size<=b\/c.X b)/\¬ G.S b/\b<w.heap.size/\(∀ i o,lk i=some o->dw (G.η i)≠some b)/\∀ j τ xs,lk j=some (.aE τ xs)->b∉G.φ j) :
  bh c ⟨G.S,λ i=>if i=id then η0 else G.η i,λ i=>if i=id then fp else G.φ i⟩ sl n (λ i=>if i=id then some (.aE τ xs) else lk i) a w:=by
 have fi:∀ j,j≠id->ew (lk j) ((λ i=>if i=id then some (aB.aE τ xs) else lk i) j)/\(if j=id then η0 else G.η j)=G.η j:=λ j hj=>by simp only[b0N hj];exact⟨ew.refl _,ag⟩
 have CG:dw η0=none:=by
  obtain⟨v,l,_,_,h1,_⟩:=hT;rw[h1];rfl
 have hblk:∀ i b,dw (if i=id then η0 else G.η i)=some b->i≠id/\dw (G.η i)=some b:=λ i b hb=>by
  by_cases hi:i=id
  .rw[b0T hi,CG] at hb;cases hb
  .rw[b0N hi] at hb;exact⟨hi,hb⟩
 have hold:∀ j aW cK,(if j=id then some (aB.aE τ xs) else lk j)=some (.aE aW cK)->j≠id->lk j=some (.aE aW cK):=λ j aW cK k hj=>by rwa [b0N hj] at k
 exact {
  defers:=h.defers,size:=h.size,aM:=h.aM,iQ:=h.iQ,eh:=h.eh,sX:=h.sX,dE:=h.dE
  aC:=λ i=>(h.aC i).mono (λ j hj=>fi j (λ e=>by subst e;rw[hs i] at hj;cases hj)) (λ _ h=>h) (λ _ _=>rfl)
  aJ:=λ i o' cr=>by
   by_cases hi:i=id
   .subst hi;simp only[b2G,b0J] at cr;subst cr;trivial
   .simp only[b0N hi] at cr;exact (h.aJ i o' cr).mono (by simp only[b0N hi]) (λ _ _=>rfl) (λ j hj=>fi j (λ e=>by subst e;rw[ho i o' cr] at hj;cases hj)) (λ _ h=>h) (λ _ _=>rfl)
  place:=λ i o' b cr hb=>by
   obtain⟨hi,hb⟩:=hblk i b hb;simp only[b0N hi] at cr;exact h.place i o' b cr hb
  apart:=λ i j o1 o2 b cr GZ hb cv=>by
   obtain⟨hi,hb⟩:=hblk i b hb;obtain⟨hj,cv⟩:=hblk j b cv;simp only[b0N hi] at cr;simp only[b0N hj] at GZ;exact h.apart i j o1 o2 b cr GZ hb cv
  aR:={
   tr:=λ j aW cK k=>by
    by_cases hj:j=id
    .subst hj;simp only[b2G,b0J,aB.aE.injEq] at k ⊢;obtain⟨rfl,k⟩:=k;have k:=b3G k;subst k;exact hT
    .simp only[b0N hj];exact h.aR.tr j aW cK (hold j aW cK k hj)
   nd:=λ j aW cK k=>by
    by_cases hj:j=id
    .simp only[b0T hj];exact dh
    .simp only[b0N hj];exact h.aR.nd j aW cK (hold j aW cK k hj)
   pl:=λ j aW cK b k hb=>by
    have fin:(∀ i o,lk i=some o->dw (G.η i)≠some b)->∀ i o,(if i=id then some (aB.aE τ xs) else lk i)=some o->dw (if i=id then η0 else G.η i)≠some b:=λ hh i o cr e=>by
     obtain⟨hi,e⟩:=hblk i b e;rw[b0N hi] at cr;exact hh i o cr e
    by_cases hj:j=id
    .simp only[b0T hj] at hb;obtain⟨q1,q2,q3,q4,q5⟩:=O7 b hb;exact⟨q1,q2,q3,fin q4⟩
    .simp only[b0N hj] at hb;obtain⟨q1,q2,q3,q4⟩:=h.aR.pl j aW cK b (hold j aW cK k hj) hb;exact⟨q1,q2,q3,fin q4⟩
   ap:=λ j j' Nq jr QH lK b k k' hb cv=>by
    by_cases hj:j=id
    .by_cases CN:j'=id
     .rw[hj,CN]
     .simp only[b0T hj] at hb;simp only[b0N CN] at cv;exact absurd cv ((O7 b hb).2.2.2.2 j' jr lK (hold j' jr lK k' CN))
    .by_cases CN:j'=id
     .simp only[b0N hj] at hb;simp only[b0T CN] at cv;exact absurd hb ((O7 b cv).2.2.2.2 j Nq QH (hold j Nq QH k hj))
     .simp only[b0N hj] at hb;simp only[b0N CN] at cv;exact h.aR.ap j j' Nq jr QH lK b (hold j Nq QH k hj) (hold j' jr lK k' CN) hb cv }
  root:=λ j v hr ht=>by
   have dD:j≠id:=λ e=>by subst e;rw[a8u] at hr;cases hr
   simp only[b0N dD] at ht ⊢;exact h.root j v hr ht
  fP:=h.fP
  dq:=λ j v hr ht=>by
   by_cases hj:j=id
   .simp only[b0T hj] at ht;cases ht
   .simp only[b0N hj] at ht ⊢;exact h.dq j v hr ht
  eG:=h.eG }
def sM(c:Ctx)(G:Gh)(lk:Nat->Option aB)(w:World)(b:Nat):Prop :=
 (c.w0.heap.size<=b\/c.X b)/\¬ G.S b/\b<w.heap.size/\(∀ i o,lk i=some o->dw (G.η i)≠some b)/\∀ j τ xs,lk j=some (.aE τ xs)->b∉G.φ j
structure E1(c:Ctx)(G:Gh)(lk lk':Nat->Option aB)(w w':World)(oJ:Nat->Value)(ni:Nat->List Nat)(I:Nat->Prop):Prop where
 same:∀ id,¬ I id->lk' id=lk id/\oJ id=G.η id/\ni id=G.φ id
 aE:∀ id,I id->∃ τ xs cK v l l',lk id=some (.aE τ xs)/\lk' id=some (.aE τ cK)/\G.η id = .tuple (v::l).toArray/\oJ id = .tuple (v::l').toArray/\ij w' (oJ id) τ cK (ni id)/\(ni id).Nodup
 a4T:∀ id b,I id->b∈ni id->(∃ dt,I dt/\b∈G.φ dt)\/sM c G lk w' b
 apart:∀ id dt b,I id->I dt->b∈ni id->b∈ni dt->id=dt
 heap:∀ b,b<w.heap.size->(∀ id,I id->b∉G.φ id)->w'.heap[b]?=w.heap[b]?
 os:w'.os=w.os
 tape:w'.tape=w.tape
 output:w'.output=w.output
 size:w.heap.size<=w'.heap.size
theorem sM.grow{lk:Nat->Option aB}{b:Nat}(h:sM c G lk w b)(hs:w.heap.size<=w'.heap.size):sM c G lk w' b :=
 ⟨h.1,h.2.1,b0V h.2.2.1 hs,h.2.2.2⟩
theorem E1.a7f{oJ:Nat->Value}{ni:Nat->List Nat}{I:Nat->Prop}{lk':Nat->Option aB}(t:E1 c G lk lk' w w' oJ ni I)(id:Nat):ew (lk id) (lk' id):=by
 by_cases hi:I id
 .obtain⟨τ,xs,cK,_,_,_,h1,h2,_⟩:=t.aE id hi;rw[h1,h2];exact⟨λ h=>(by cases h),(λ e τ xs h=>by cases h),(λ _=>rfl),λ hh=>by cases hh⟩
 .rw[(t.same id hi).1];exact ew.refl _
theorem C1.eI{oJ:Nat->Value}{ni:Nat->List Nat}{I:Nat->Prop}{lk':Nat->Option aB}(t:E1 c G lk lk' w w' oJ ni I)(cf:∀ b,St c G.S b->w'.heap[b]?=w.heap[b]?){u:AV}{x:Value}(hu:u.JB=false)(h:C1 c G lk w u x):C1 c ⟨G.S,oJ,ni⟩ lk' w' u x:=by
 have key:(∀ id,u.refs id=true->¬ I id)->C1 c ⟨G.S,oJ,ni⟩ lk' w' u x:=λ hk=>h.mono (λ id aU=>⟨t.a7f id,(t.same id (hk id aU)).2.1⟩) (λ _ h=>h) cf;have noT:∀ id,cS (lk id)=false->¬ I id:=λ id hn hi=>by
  obtain⟨τ,xs,_,_,_,_,h1,_⟩:=t.aE id hi;rw[h1] at hn;cases hn
 cases u with
 | aE id =>
  obtain⟨h1,l,h2,h3⟩:=h;by_cases hi:I id
  .obtain⟨τ,xs,cK,v,l0,l',k1,k2,k3,k4,_⟩:=t.aE id hi;rw[k3] at h2;simp only[b2p,b4y,b0O] at h2;obtain⟨rfl,_⟩:=h2;exact⟨by rw[k2];rfl,l',k4,h3⟩
  .exact key λ j hj=>by
    have:=b0L (show Nat.beq id j=true from hj);subst this;exact hi
 | eB id i off sz =>
  obtain⟨h1,b,n,cap,l,h2,h3⟩:=h;by_cases hi:I id
  .obtain⟨τ,xs,cK,v,l0,l',k1,k2,k3,k4,_⟩:=t.aE id hi;rw[k3] at h2;simp only[b2p,b4y,b0O] at h2;obtain⟨rfl,_⟩:=h2;exact⟨by rw[k2];rfl,b,n,cap,l',k4,h3⟩
  .exact key λ j hj=>by
    have:=b0L (show Nat.beq id j=true from hj);subst this;exact hi
 | sub id i off sz=>cases hu
 | ptr id off =>
  refine key λ j hj=>?_;have:=b0L (show Nat.beq id j=true from hj);subst this;obtain⟨_,_,_,h3⟩:=h;exact noT id (by match hl:lk id,h3 with|some (.box _),_=>rfl)
 | row id =>
  refine key λ j hj=>?_;have:=b0L (show Nat.beq id j=true from hj);subst this;exact noT id (pZ h.2.1)
 | ep id i off =>
  refine key λ j hj=>?_;have:=b0L (show Nat.beq id j=true from hj);subst this;obtain⟨_,_,_,_,_,_,_,h3,_⟩:=h;exact noT id (by rw[h3];rfl)
 | mp id =>
  refine key λ j hj=>?_;have:=b0L (show Nat.beq id j=true from hj);subst this;exact noT id (FB h.2.1)
 | agg cs=>exact h.elim
 | gK cs=>exact h.elim
 | cP f cs=>exact h.elim
 | _=>exact key λ j hj=>by cases hj
theorem nc:∀ {cs:List AV} {v:AV},AV.nb cs=false->v∈cs->v.JB=false
 | u::r,v,h,hm=>by
  simp only[AV.nb] at h;split at h
  .cases h
  .rename_i hu;rcases b0X.1 hm with rfl|hm
   .exact hu
   .exact nc h hm
theorem CR.eI{oJ:Nat->Value}{ni:Nat->List Nat}{I:Nat->Prop}{lk':Nat->Option aB}(t:E1 c G lk lk' w w' oJ ni I)(cf:∀ b,St c G.S b->w'.heap[b]?=w.heap[b]?){u:AV}{x:Value}(hu:u.JB=false)(h:CR c G lk w u x):CR c ⟨G.S,oJ,ni⟩ lk' w' u x:=by
 cases u with
 | aO v=>exact dI.mono (G:=G) (G':=⟨G.S,oJ,ni⟩) h (λ _ h=>h) (λ b hb=>cf b (.inl hb))
 | agg cs =>
  obtain⟨l,h1,h2⟩:=h;exact⟨l,h1,h2.imp λ u y hm hy=>hy.eI t cf (nc (show AV.nb cs=false from hu) hm)⟩
 | _=>exact C1.We (C1.eI t cf hu h)
theorem VR.eI{oJ:Nat->Value}{ni:Nat->List Nat}{I:Nat->Prop}{lk':Nat->Option aB}(t:E1 c G lk lk' w w' oJ ni I)(cf:∀ b,St c G.S b->w'.heap[b]?=w.heap[b]?){u:AV}{x:Value}(hu:u.JB=false)(h:VR c G lk w u x):VR c ⟨G.S,oJ,ni⟩ lk' w' u x:=by
 cases u with
 | aO v=>exact dI.mono (G:=G) (G':=⟨G.S,oJ,ni⟩) h (λ _ h=>h) (λ b hb=>cf b (.inl hb))
 | agg cs =>
  obtain⟨l,h1,h2⟩:=h;exact⟨l,h1,h2.imp λ u y hm hy=>hy.eI t cf (nc (show AV.nb cs=false from hu) hm)⟩
 | gK vs =>
  obtain⟨l,h1,h2⟩:=h;refine⟨l,h1,h2.imp λ u y hm hy=>?_⟩;have hu':=nc (show AV.nb vs=false from hu) hm;cases u with
  | any=>trivial
  | aO v=>exact dI.mono (G:=G) (G':=⟨G.S,oJ,ni⟩) hy (λ _ h=>h) (λ b hb=>cf b (.inl hb))
  | aE i=>exact C1.eI (u := .aE i) t cf rfl hy
  | cU v=>exact C1.eI (u := .cU v) t cf rfl hy
  | agg cs =>
   obtain⟨l,h1,h2⟩:=hy;exact⟨l,h1,h2.imp λ u y hm hy=>hy.eI t cf (nc (show AV.nb cs=false from hu') hm)⟩
  | _=>exact hy.elim
 | any=>trivial
 | dX=>exact h
 | nil=>exact (C1.eI (u := .nil) t cf hu h).fE
 | cU u=>exact (C1.eI (u := .cU u) t cf hu h).fE
 | ptr i o=>exact (C1.eI (u := .ptr i o) t cf hu h).fE
 | row i=>exact (C1.eI (u := .row i) t cf hu h).fE
 | ep i k o=>exact (C1.eI (u := .ep i k o) t cf hu h).fE
 | fn f=>exact (C1.eI (u := .fn f) t cf hu h).fE
 | aE i=>exact (C1.eI (u := .aE i) t cf hu h).fE
 | sub i k o z=>cases hu
 | mp i=>exact (C1.eI (u := .mp i) t cf hu h).fE
 | eB i k o z=>exact (C1.eI (u := .eB i k o z) t cf hu h).fE
 | gR v=>exact (C1.eI (u := .gR v) t cf hu h).fE
 | cP f cs =>
  obtain⟨l,h1,h2⟩:=h;exact⟨l,h1,h2.imp λ u y hm hy=>hy.eI t cf (nc (show AV.nb cs=false from hu) hm)⟩
theorem bh.eI(h:bh c G sl n lk a w){oJ:Nat->Value}{ni:Nat->List Nat}{I:Nat->Prop}{lk':Nat->Option aB}(t:E1 c G lk lk' w w' oJ ni I)(hs:∀ i,(sl i).JB=false)(xv:∀ id cs,lk id=some (.box cs)->AV.nb cs=false) :
  bh c ⟨G.S,oJ,ni⟩ sl n lk' a w':=by
 have pl:∀ id b,I id->b∈G.φ id->(c.w0.heap.size<=b\/c.X b)/\¬ G.S b/\b<w.heap.size/\∀ i o,lk i=some o->dw (G.η i)≠some b:=λ id b hi hb=>by
  obtain⟨τ,xs,_,_,_,_,h1,_⟩:=t.aE id hi;exact h.aR.pl id τ xs b h1 hb
 have YG:∀ b,b<w.heap.size->((c.w0.heap.size<=b\/c.X b)->False)->w'.heap[b]?=w.heap[b]?:=λ b hb hn=>t.heap b hb λ id hi gT=>hn (pl id b hi gT).1;have cf:∀ b,St c G.S b->w'.heap[b]?=w.heap[b]?:=λ b hb=>by
  rcases hb with hb|hb
  .exact t.heap b (h.dE b hb) λ id hi gT=>(pl id b hi gT).2.1 hb
  .exact YG b (b0V hb.1 h.aM.size) λ hn=>hn.elim (λ q=>by omega) hb.2.1
 have hblk:∀ id o b,lk id=some o->dw (G.η id)=some b->w'.heap[b]?=w.heap[b]?:=λ id o b ho hb =>
  t.heap b (h.place id o b ho hb).2.2 λ j hj gT=>(pl j b hj gT).2.2.2 id o ho hb
 have eY:∀ id b,dw (oJ id)=some b->¬ I id/\dw (G.η id)=some b:=λ id b hb=>by
  by_cases hi:I id
  .obtain⟨_,_,_,_,_,_,_,_,_,h4,_⟩:=t.aE id hi;rw[h4] at hb;cases hb
  .rw[(t.same id hi).2.1] at hb;exact⟨hi,hb⟩
 have lZ:∀ id τ xs b,lk' id=some (.aE τ xs)->b∈ni id->(∃ dt aW cK,lk dt=some (.aE aW cK)/\b∈G.φ dt/\(¬ I id->dt=id)/\(I id->I dt))\/(I id/\sM c G lk w' b):=λ id τ xs b aU hb=>by
  by_cases hi:I id
  .rcases t.a4T id b hi hb with ⟨dt,jw,cv⟩|Tm
   .obtain⟨aW,cK,_,_,_,_,h1,_⟩:=t.aE dt jw;exact .inl ⟨dt,aW,cK,h1,cv,λ hn=>absurd hi hn,λ _=>jw⟩
   .exact .inr ⟨hi,Tm⟩
  .obtain⟨h1,h2,h3⟩:=t.same id hi;rw[h1] at aU;rw[h3] at hb;exact .inl ⟨id,τ,xs,aU,hb,λ _=>rfl,λ jw=>absurd jw hi⟩
 exact {
  defers:=h.defers,size:=h.size
  aM:=h.aM.trans (Y:=λ b=>c.w0.heap.size<=b\/c.X b) ⟨t.os,t.tape,t.output,t.size,λ b hb hn=>YG b hb hn⟩ λ i hi hy=>hy.elim (λ q=>by omega) id
  iQ:=h.iQ,eh:=h.eh,sX:=h.sX
  dE:=λ b hb=>b0V (h.dE b hb) t.size
  aC:=λ i=>(h.aC i).eI t cf (hs i)
  aJ:=λ id o aU=>by
   by_cases hi:I id
   .obtain⟨τ,xs,cK,_,_,_,_,h2,_⟩:=t.aE id hi;rw[h2] at aU;simp only[b0J] at aU;subst aU;trivial
   .obtain⟨h1,h2,h3⟩:=t.same id hi;rw[h1] at aU;have ho:=h.aJ id o aU;cases o with
    | box cs =>
     obtain⟨b,l,ty,k1,k2,k3⟩:=ho;refine⟨b,l,ty,h2.trans k1,?_,k3.imp λ u y hm hy=>hy.eI t cf (nc (xv id cs aU) hm)⟩;rw[hblk id _ b aU (by rw[k1];rfl)];exact k2
    | row e τ xs =>
     obtain⟨l,k1,k2,k3⟩:=ho;refine⟨l,?_,dj.aM (λ _ h=>h) (λ b hb=>cf b (.inl hb)) _ k2,k3⟩;rw[show (⟨G.S,oJ,ni⟩:Gh).η id=G.η id from h2];exact FI k1 λ b hb=>hblk id _ b aU hb
    | aE τ xs=>trivial
    | map m =>
     obtain⟨b,es,clock,k1,k2,k3⟩:=ho;exact⟨b,es,clock,h2.trans k1,(hblk id _ b aU (by rw[k1];rfl)).trans k2,k3⟩
  place:=λ id o b aU hb=>by
   obtain⟨hi,hb⟩:=eY id b hb;rw[(t.same id hi).1] at aU;obtain⟨q1,q2,q3⟩:=h.place id o b aU hb;exact⟨q1,q2,b0V q3 t.size⟩
  apart:=λ id dt o o' b aU CM hb cv=>by
   obtain⟨hi,hb⟩:=eY id b hb;obtain⟨jw,cv⟩:=eY dt b cv;rw[(t.same id hi).1] at aU;rw[(t.same dt jw).1] at CM;exact h.apart id dt o o' b aU CM hb cv
  aR:={
   tr:=λ id τ xs aU=>by
    by_cases hi:I id
    .obtain⟨τ0,xs0,cK,v,l,l',h1,h2,h3,h4,h5,h6⟩:=t.aE id hi;rw[h2] at aU;simp only[b0J,aB.aE.injEq] at aU;obtain⟨rfl,aU⟩:=aU;have aU:=b3G aU;subst aU;exact h5
    .obtain⟨h1,h2,h3⟩:=t.same id hi;rw[h1] at aU;rw[show (⟨G.S,oJ,ni⟩:Gh).η id=G.η id from h2,show (⟨G.S,oJ,ni⟩:Gh).φ id=G.φ id from h3];exact (h.aR.tr id τ xs aU).aM λ b hb=>t.heap b (h.aR.pl id τ xs b aU hb).2.2.1 λ j hj gT=>by
      obtain⟨aW,cK,_,_,_,_,k1,_⟩:=t.aE j hj;have:=h.aR.ap id j τ aW xs cK b aU k1 hb gT;subst this;exact hi hj
   nd:=λ id τ xs aU=>by
    by_cases hi:I id
    .obtain⟨_,_,_,_,_,_,_,_,_,_,_,h6⟩:=t.aE id hi;exact h6
    .obtain⟨h1,h2,h3⟩:=t.same id hi;rw[h1] at aU;rw[show (⟨G.S,oJ,ni⟩:Gh).φ id=G.φ id from h3];exact h.aR.nd id τ xs aU
   pl:=λ id τ xs b aU hb=>by
    have hq:(c.w0.heap.size<=b\/c.X b)/\¬ G.S b/\b<w'.heap.size/\∀ i o,lk i=some o->dw (G.η i)≠some b:=by
     rcases lZ id τ xs b aU hb with ⟨dt,aW,cK,k1,k2,_⟩|⟨_,f1,f2,f3,f4,_⟩
     .obtain⟨f1,f2,f3,f4⟩:=h.aR.pl dt aW cK b k1 k2;exact⟨f1,f2,b0V f3 t.size,f4⟩
     .exact⟨f1,f2,f3,f4⟩
    obtain⟨q1,q2,q3,q4⟩:=hq;refine⟨q1,q2,q3,λ i o cr rA=>?_⟩;obtain⟨hi,rA⟩:=eY i b rA;rw[(t.same i hi).1] at cr;exact q4 i o cr rA
   ap:=λ id dt τ aW xs cK b aU CM hb cv=>by
    by_cases hi:I id
    .by_cases jw:I dt
     .exact t.apart id dt b hi jw hb cv
     .rcases lZ dt aW cK b CM cv with ⟨j',jr,lK,m1,m2,m3,_⟩|⟨q,_⟩
      .rcases lZ id τ xs b aU hb with ⟨j,Nq,QH,k1,k2,_,k4⟩|⟨_,Tm⟩
       .have:=h.aR.ap j j' _ _ _ _ b k1 m1 k2 m2;have e:=m3 jw;subst e this;exact absurd (k4 hi) jw
       .exact absurd m2 (Tm.2.2.2.2 j' jr lK m1)
      .exact absurd q jw
    .by_cases jw:I dt
     .rcases lZ id τ xs b aU hb with ⟨j,Nq,QH,k1,k2,k3,_⟩|⟨q,_⟩
      .rcases lZ dt aW cK b CM cv with ⟨j',jr,lK,m1,m2,_,m4⟩|⟨_,Tm⟩
       .have:=h.aR.ap j j' _ _ _ _ b k1 m1 k2 m2;have e:=k3 hi;subst e this;exact absurd (m4 jw) hi
       .exact absurd k2 (Tm.2.2.2.2 j Nq QH k1)
      .exact absurd q hi
     .rcases lZ id τ xs b aU hb with ⟨j,Nq,QH,k1,k2,k3,_⟩|⟨q,_⟩
      .rcases lZ dt aW cK b CM cv with ⟨j',jr,lK,m1,m2,m3,_⟩|⟨q,_⟩
       .have:=h.aR.ap j j' _ _ _ _ b k1 m1 k2 m2;exact (k3 hi).symm.trans (this.trans (m3 jw))
       .exact absurd q jw
      .exact absurd q hi }
  root:=λ id v hr ht=>by
   by_cases hi:I id
   .obtain⟨τ,xs,cK,v0,l,l',k1,k2,k3,k4,_⟩:=t.aE id hi;obtain⟨l2,h2⟩:=h.root id v hr (by rw[k1];rfl);rw[k3] at h2;simp only[b2p,b4y,b0O] at h2;obtain⟨rfl,_⟩:=h2;exact⟨l',k4⟩
   .obtain⟨h1,h2,_⟩:=t.same id hi;rw[h1] at ht;rw[show (⟨G.S,oJ,ni⟩:Gh).η id=G.η id from h2];exact h.root id v hr ht
  fP:=h.fP
  dq:=λ id v hr ht=>by
   by_cases hi:I id
   .obtain⟨τ,xs,cK,v0,l,l',k1,k2,k3,k4,_⟩:=t.aE id hi;rw[k2] at ht;cases ht
   .obtain⟨h1,h2,_⟩:=t.same id hi;rw[h1] at ht;rw[show (⟨G.S,oJ,ni⟩:Gh).η id=G.η id from h2];exact h.dq id v hr ht
  eG:=h.eG }
theorem bh.PV(h:bh c G sl n lk a w){d:Nat}(hd:lk d=none):(∀ i,(sl i).refs d=false)/\∀ i o,lk i=some o->o.refs d=false:=by
 have c1:∀ (v:AV) (x:Value),C1 c G lk w v x->v.refs d=true->False:=λ v x hv hr=>by
  have iF:∀ i,Nat.beq i d=true->fI (lk i)=false/\isRow (lk i)=false/\cS (lk i)=false/\∀ e τ xs,lk i≠some (.row e τ xs):=λ i hi=>by
   have:=b0L hi;subst this;rw[hd];exact⟨rfl,rfl,rfl,λ _ _ _=>by simp⟩
  cases v with
  | ptr i o=>obtain⟨_,_,_,h3⟩:=hv;rw[(iF i hr).1] at h3;cases h3
  | row i=>obtain⟨_,h3,_⟩:=hv;rw[(iF i hr).2.1] at h3;cases h3
  | ep i k o=>obtain⟨_,_,_,_,_,_,_,h3,_⟩:=hv;exact (iF i hr).2.2.2 _ _ _ h3
  | aE i=>have h3:=hv.1;rw[(iF i hr).2.2.1] at h3;cases h3
  | sub i k o z=>have h3:=hv.1;rw[(iF i hr).2.2.1] at h3;cases h3
  | eB i k o z=>have h3:=hv.1;rw[(iF i hr).2.2.1] at h3;cases h3
  | mp i =>
   have h3:=hv.2.1;have:=b0L (show Nat.beq i d=true from hr);subst this;rw[hd] at h3;cases h3
  | agg cs=>exact hv
  | gK cs=>exact hv
  | cP f cs=>exact hv
  | _=>cases hr
 have cL:∀ (cs:List AV) (l:List Value),aN (C1 c G lk w) cs l->AV.fL d cs=true->False:=by
  intro cs;induction cs with
  | nil=>intro l _ hr;cases hr
  | cons v r ih =>
   intro l hl hr;match l,hl with
   | x::l,hl =>
    simp only[AV.fL] at hr;split at hr
    .rename_i hv;exact c1 v x hl.1 hv
    .exact ih l hl.2 hr
 refine⟨λ i=>?_,λ i o ho=>?_⟩
 .cases hr:(
        sl i).refs d with
  | false=>rfl
  | true =>
   have hv:=h.aC i;revert hv hr;generalize a.tmps.getD i undef=x;cases sl i with
   | aO u=>intro hr;cases hr
   | agg cs =>
    intro hr hv;obtain⟨l,_,hl⟩:=hv;exact (cL cs l hl hr).elim
   | gK vs =>
    intro hr hv;obtain⟨l,_,hl⟩:=hv;have:∀ (
         vs:List AV) (l:List Value),aN (TR c G lk w) vs l->AV.fL d vs=true->False:=by
     intro vs;induction vs with
     | nil=>intro l _ hr;cases hr
     | cons v r ih =>
      intro l hl hr;match l,hl with
      | x::l,hl =>
       simp only[AV.fL] at hr;split at hr
       .rename_i hv;have h1:=hl.1;cases v with
        | aE i=>exact c1 (.aE i) x h1 hv
        | agg cs =>
         obtain⟨l',_,mW⟩:=h1;exact cL cs l' mW hv
        | aO u=>cases hv
        | cU u=>cases hv
        | any=>cases hv
        | _=>exact h1
       .exact ih l hl.2 hr
    exact (this vs l hl hr).elim
   | cP f vs =>
    intro hr hv;obtain⟨l,_,hl⟩:=hv;have:∀ (vs:List AV) (l:List Value),aN (CR c G lk w) vs l->AV.fL d vs=true->False:=by
     intro vs;induction vs with
     | nil=>intro l _ hr;cases hr
     | cons v r ih =>
      intro l hl hr;match l,hl with
      | x::l,hl =>
       simp only[AV.fL] at hr;split at hr
       .rename_i hv;rcases hl.1.inv with ⟨u,rfl,_⟩|⟨cs,l',rfl,_,mW⟩|h1
        .cases hv
        .exact cL cs l' mW hv
        .exact c1 _ x h1 hv
       .exact ih l hl.2 hr
    exact (this vs l hl hr).elim
   | any=>intro hr;cases hr
   | dX=>intro hr;cases hr
   | nil=>intro hr;cases hr
   | cU u=>intro hr;cases hr
   | fn f=>intro hr;cases hr
   | gR v=>intro hr;cases hr
   | ptr i o=>intro hr hv;exact (c1 (.ptr i o) x hv hr).elim
   | row i=>intro hr hv;exact (c1 (.row i) x hv hr).elim
   | ep i k o=>intro hr hv;exact (c1 (.ep i k o) x hv hr).elim
   | aE i=>intro hr hv;exact (c1 (.aE i) x hv hr).elim
   | sub i k o z=>intro hr hv;exact (c1 (.sub i k o z) x hv hr).elim
   | eB i k o z=>intro hr hv;exact (c1 (.eB i k o z) x hv hr).elim
   | mp i=>intro hr hv;exact (c1 (.mp i) x hv hr).elim
 .cases hr:o.refs d with
  | false=>rfl
  | true =>
   cases o with
   | row e τ xs=>cases hr
   | aE τ xs=>cases hr
   | map m=>cases hr
   | box cs =>
    obtain⟨b,l,t,_,_,k3⟩:=h.aJ i _ ho;exact (cL cs l k3 hr).elim
structure Ext(G:Gh)(lk:Nat->Option aB)(G':Gh)(lk':Nat->Option aB):Prop where
 S:G'.S=G.S
 old:∀ i o,lk i=some o->lk' i=some o/\G'.η i=G.η i/\G'.φ i=G.φ i
theorem Ext.refl(G:Gh)(lk:Nat->Option aB):Ext G lk G lk:=⟨rfl,λ _ _ h=>⟨h,rfl,rfl⟩⟩
theorem Ext.trans{G1 G2 G3:Gh}{l1 l2 l3:Nat->Option aB}(h:Ext G1 l1 G2 l2)(k:Ext G2 l2 G3 l3):Ext G1 l1 G3 l3 :=
 ⟨k.S.trans h.S,λ i o ho=>by
  obtain⟨a1,a2,a3⟩:=h.old i o ho;obtain⟨b1,b2,b3⟩:=k.old i o a1;exact⟨b1,b2.trans a2,b3.trans a3⟩⟩
theorem C1.ext{G':Gh}{lk':Nat->Option aB}(e:Ext G lk G' lk'){v:AV}{x:Value}(h:C1 c G lk w v x):C1 c G' lk' w v x:=by
 refine h.mono (λ id aU=>?_) (λ b hb=>by rw[e.S];exact hb) (λ _ _=>rfl);have dD:lk id≠none:=λ hn=>by
  cases v with
  | ptr i o=>have:=b0L (show Nat.beq i id=true from aU);subst this;obtain⟨_,_,_,h3⟩:=h;rw[hn] at h3;cases h3
  | row i=>have:=b0L (show Nat.beq i id=true from aU);subst this;obtain⟨_,h3,_⟩:=h;rw[hn] at h3;cases h3
  | ep i k o=>have:=b0L (show Nat.beq i id=true from aU);subst this;obtain⟨_,_,_,_,_,_,_,h3,_⟩:=h;rw[hn] at h3;cases h3
  | aE i=>have:=b0L (show Nat.beq i id=true from aU);subst this;have h3:=h.1;rw[hn] at h3;cases h3
  | sub i k o z=>have:=b0L (show Nat.beq i id=true from aU);subst this;have h3:=h.1;rw[hn] at h3;cases h3
  | eB i k o z=>have:=b0L (show Nat.beq i id=true from aU);subst this;have h3:=h.1;rw[hn] at h3;cases h3
  | mp i=>have:=b0L (show Nat.beq i id=true from aU);subst this;have h3:=h.2.1;rw[hn] at h3;cases h3
  | agg cs=>exact h
  | gK cs=>exact h
  | cP f cs=>exact h
  | _=>cases aU
 match hl:lk id,dD with
 | some o,_ =>
  obtain⟨h1,h2,_⟩:=e.old id o hl;rw[h1];exact⟨ew.refl _,h2⟩
def Fr(c:Ctx)(G:Gh)(lk:Nat->Option aB)(w:World)(fp:List Nat):Prop :=
 ∀ b∈fp,(c.w0.heap.size<=b\/c.X b)/\¬ G.S b/\b<w.heap.size/\(∀ i o,lk i=some o->dw (G.η i)≠some b)/\∀ j τ xs,lk j=some (.aE τ xs)->b∉G.φ j
def fT(news:List (Nat×aB))(lk:Nat->Option aB)(i:Nat):Option aB:=match ai news i with
 | some o=>some o
 | none=>lk i
theorem a2j(lk:Nat->Option aB):fT [] lk=lk:=rfl
theorem a0c(id:Nat)(o:aB)(r:List (Nat×aB))(lk:Nat->Option aB)(hr:ai r id=none):fT r (λ i=>if i=id then some o else lk i)=fT ((id,o)::r) lk:=by
 funext i;unfold fT;rw[dx];by_cases hi:i=id
 .subst hi;rw[hr];simp
 .simp[hi]
theorem L7:∀ (r r':List (Nat×aB)) (lk:Nat->Option aB),fT (r++r') lk=fT r (fT r' lk)
 | [],r',lk=>rfl
 | (id,o)::r,r',lk=>by
  funext i;have:=congrFun (L7 r r' lk) i;unfold fT at this ⊢;rw[List.cons_append,dx,dx];by_cases hi:i=id
  .simp[hi]
  .simpa [hi] using this
theorem ij.XB{τ:Ty}{xs:List τ.den}{x:Value}{fp:List Nat}(h:Ow w (.slice τ.size (xs.map τ.aK)) [x] fp):∃ l,ij w (.tuple (x::l).toArray) τ xs fp/\∃ a n m,x = .slice a n m:=by
 obtain⟨a',cap,h1,h2,h3,h4,h5⟩:=h;simp only[b0O,b1i,b1F] at h1 h2 h4;subst h1;rcases h5 with ⟨hx,ha,hf⟩|⟨b,f,l,t,ha,hf,k1,k2⟩
 .refine⟨[],⟨_,[],a',cap,rfl,rfl,h2,h3,h4, .inl ⟨?_,ha,hf⟩⟩,_,_,_,rfl⟩;simpa using hx
 .exact⟨l,⟨_,l,a',cap,rfl,rfl,h2,h3,h4, .inr ⟨b,f,t,ha,hf,k1,k2⟩⟩,_,_,_,rfl⟩
theorem Ow.XC{η:Value}{τ:Ty}{xs:List τ.den}{fp:List Nat}(h:ij w η τ xs fp){x:Value}{l:List Value}(hx:η = .tuple (x::l).toArray):Ow w (.slice τ.size (xs.map τ.aK)) [x] fp:=by
 obtain⟨v,l',a',cap,h1,h2,h3,h4,h5,h6⟩:=h;rw[hx] at h1;simp only[Value.tuple.injEq,List.toArray_inj,List.cons.injEq] at h1;obtain⟨rfl,rfl⟩:=h1;refine⟨a',cap,by simp[h2],by simpa using h3,h4,by simpa using h5,?_⟩;rcases h6 with ⟨rfl,q1,q2⟩|⟨b,f,t,q1,q2,q3,q4⟩
 .exact .inl ⟨rfl,q1,q2⟩
 .exact .inr ⟨b,f,l,t,q1,q2,q3,q4⟩
theorem fC:∀ {l:List (Nat×aB)} {id:Nat} {o:aB},ai l id=some o->(id,o)∈l
 | (k,p)::r,id,o,h=>by
  simp only[ai] at h;split at h
  .rename_i hk;have hk:=b0L hk;simp only[b0J] at h;subst hk h;simp
  .exact b1O _ (fC h)
theorem bh.a0C(h:bh c G sl n lk a w){u:TV}(hu:u.τ.agg=false){x:Value}{fp:List Nat}{id:Nat}(hO:Ow w u.aK [x] fp)(dh:fp.Nodup)(hF:Fr c G lk w fp)(aU:∀ p∈fh id u,lk p.1=none)(hR:c.R id=none) :
  ∃ G',bh c G' sl n (fT (fh id u) lk) a w/\Ext G lk G' (fT (fh id u) lk)/\C1 c G' (fT (fh id u) lk) w (jA id u) x /\
   ∀ fq,Fr c G lk w fq->(∀ b∈fq,b∉fp)->Fr c G' (fT (fh id u) lk) w fq:=by
 have qA:(fh id u=[]/\jA id u = .aO u)->∃ G',bh c G' sl n (fT (fh id u) lk) a w/\Ext G lk G' (fT (fh id u) lk)/\C1 c G' (fT (fh id u) lk) w (jA id u) x /\
   ∀ fq,Fr c G lk w fq->(∀ b∈fq,b∉fp)->Fr c G' (fT (fh id u) lk) w fq:=by
  rintro⟨e1,e2⟩;rw[e1,e2];exact⟨G,h,Ext.refl _ _,⟨hu,hO.rd (S:=λ b=>b∈fp) _ (λ _ h=>h) |> λ hr=>by
   obtain⟨τ,y⟩:=u;cases τ with
   | slice t=>simp[fh] at e1
   | mv t=>simp[jA] at e2
   | ptr=>exact hr
   | st s=>cases hu
   | int k=>exact hr
   | bool=>exact hr
   | str=>exact hr⟩,λ fq hq _=>hq⟩
 obtain⟨τ,y⟩:=u;cases τ with
 | mv t=>exact⟨G,h,Ext.refl _ _,ag,λ fq hq _=>hq⟩
 | slice t =>
  obtain⟨l,hT,xx⟩:=ij.XB (τ:=t) (xs:=y) hO;have hn:lk id=none:=aU (id, .aE t y) (by simp[fh]);obtain⟨QY,vG⟩:=h.PV hn;have hI:=h.PS id t y _ fp hn QY vG hR hT dh hF;have bW:fT (fh id ⟨.slice t,y⟩) lk=λ i=>if i=id then some (.aE t y) else lk i:=by
   rw[<-a2j (λ i=>if i=id then some (aB.aE t y) else lk i),a0c id _ [] lk rfl];rfl
  rw[bW];refine⟨_,hI,⟨rfl,λ i o ho=>?_⟩,⟨by simp[cS],l,by simp,xx⟩,λ fq hq vZ b hb=>?_⟩
  .have hi:i≠id:=λ e=>by subst e;rw[hn] at ho;cases ho
   simp[hi,ho]
  .obtain⟨q1,q2,q3,q4,q5⟩:=hq b hb;refine⟨q1,q2,q3,λ i o cr e=>?_,λ j τ xs hj=>?_⟩
   .by_cases hi:i=id
    .simp only[b0T hi] at e;cases e
    .simp only[b0N hi] at cr e;exact q4 i o cr e
   .by_cases hi:j=id
    .simp only[b0T hi];exact vZ b hb
    .simp only[b0N hi] at hj ⊢;exact q5 j τ xs hj
 | st s=>cases hu
 | ptr=>exact qA ⟨rfl,rfl⟩
 | int k=>exact qA ⟨rfl,rfl⟩
 | bool=>exact qA ⟨rfl,rfl⟩
 | str=>exact qA ⟨rfl,rfl⟩
theorem L9{id:Nat}{u:TV}{p:Nat×aB}(h:p∈fh id u):p.1=id:=by
 obtain⟨τ,y⟩:=u;cases τ<;>simp[fh] at h;rw[h]
theorem PC{r:List (Nat×aB)}{i:Nat}(h:∀ p∈r,p.1≠i):ai r i=none:=by
 induction r with
 | nil=>rfl
 | cons p r ih =>
  obtain⟨k,o⟩:=p;rw[dx,b0N (λ e=>h (k,o) (by simp) e.symm)];exact ih λ q hq=>h q (by simp[hq])
theorem bh.xN:∀ {us:List TV} {cs:List Value} {fp:List Nat} {id:Nat} {G:Gh} {lk:Nat->Option aB},bh c G sl n lk a w->(∀ u∈us,u.τ.agg=false)->cY w (us.map TV.aK) cs fp->fp.Nodup->Fr c G lk w fp ->
  (∀ p∈bP id us,lk p.1=none)->((bP id us).map (·.1)).Nodup->(∀ j,id<=j->c.R j=none) ->
  ∃ G' lk',(∀ i,lk' i=fT (bP id us) lk i)/\bh c G' sl n lk' a w/\Ext G lk G' lk'/\aN (C1 c G' lk' w) (ca id us) cs/\∀ fq,Fr c G lk w fq->(∀ b∈fq,b∉fp)->Fr c G' lk' w fq
 | [],cs,fp,id,G,lk,h,_,hO,_,_,_,_,_=>by
  obtain⟨rfl,rfl⟩:=hO;exact⟨G,lk,λ _=>rfl,h,Ext.refl _ _,ag,λ fq hq _=>hq⟩
 | u::us,cs,fp,id,G,lk,h,hu,hO,dh,hF,aU,oP,hR=>by
  obtain⟨v,r,f1,f2,rfl,rfl,h1,h2⟩:=hO;rw[b1e] at dh;obtain⟨nd1,nd2,nd3⟩:=dh;simp only[bP,b2b] at oP;rw[b1e] at oP;obtain⟨d1,d2,d3⟩:=oP;obtain⟨G1,i1,e1,c1,WV⟩:=h.a0C (id:=id) (hu u (by simp)) h1 nd1 (λ b hb=>hF b (by simp[hb])) (λ p hp=>aU p (by simp[bP,hp])) (hR id (b1d _));have dD:∀ p∈bP (id+1) us,ai (fh id u) p.1=none:=λ p hp=>PC λ q hq e=>d3 q.1 (b0P.2 ⟨q,hq,rfl⟩) p.1 (b0P.2 ⟨p,hp,rfl⟩) e;obtain⟨G2,lk2,k1,k2,k3,k4,k5⟩:=bh.xN (us:=us) (cs:=r) (fp:=f2) (id:=id+1) i1 (λ u hu'=>hu u (by simp[hu'])) h2 nd2
   (WV f2 (λ b hb=>hF b (by simp[hb])) (λ b hb cv=>nd3 b cv b hb rfl)) (λ p hp=>by unfold fT;rw[dD p hp];exact aU p (by simp[bP,hp])) d2 (λ j hj=>hR j (by omega))
  refine⟨G2,lk2,λ i=>?_,k2,e1.trans k3,⟨c1.ext k3,k4⟩,λ fq hq vZ=>k5 fq (WV fq hq λ b hb cv=>vZ b hb (by simp[cv])) λ b hb cv=>vZ b hb (by simp[cv])⟩;rw[k1 i];simp only[bP];unfold fT;have a8w:∀ (r r':List (Nat×aB)) (j:Nat),ai (r++r') j=match ai r j with|some o=>some o|none=>ai r' j:=by
   intro r r' j;induction r with
   | nil=>rfl
   | cons p r ih =>
    obtain⟨k,o⟩:=p;rw[b1B,dx,dx];by_cases hj:j=k
    .simp[hj]
    .simpa [hj] using ih
  rw[a8w];cases hx:ai (bP (id+1) us) i with
  | none=>simp only[];cases ai (fh id u) i<;>rfl
  | some o =>
   simp only[];have hm:=fC hx;rw[dD _ hm]
theorem N2(s:aL)(y:s.den):∀ u∈s.cells y,u.τ.agg=false:=λ u hu=>by
 have:=aL.ns s y u hu;obtain⟨aW,z'⟩:=u;cases aW with
 | st s'=>simp[TV.aK,Ty.aK,aL.bX,D.leaf] at this
 | _=>rfl
theorem TR.ext{G':Gh}{lk':Nat->Option aB}(e:Ext G lk G' lk'){v:AV}{x:Value}(h:TR c G lk w v x):TR c G' lk' w v x:=by
 cases v with
 | any=>trivial
 | aO v=>exact dI.mono (G:=G) (G':=G') h (λ b hb=>by rw[e.S];exact hb) (λ _ _=>rfl)
 | aE i=>exact C1.ext (c:=c) (w:=w) (v := .aE i) e h
 | cU v=>exact C1.ext (c:=c) (w:=w) (v := .cU v) e h
 | agg cs =>
  obtain⟨l,h1,h2⟩:=h;exact⟨l,h1,h2.imp λ u y _ hy=>hy.ext e⟩
 | _=>exact h.elim
theorem TR.fE{v:AV}{x:Value}(h:TR c G lk w v x):VR c G lk w v x:=by
 cases v with
 | any=>trivial
 | aO v=>exact h
 | aE i=>exact h
 | cU v=>exact h
 | agg cs=>exact h
 | _=>exact h.elim
theorem C1.a9w{id:Nat}{u:TV}{x:Value}(h:C1 c G lk w (jA id u) x)(hu:u.τ.agg=false):TR c G lk w (jA id u) x:=by
 obtain⟨τ,y⟩:=u;cases τ with
 | slice t=>exact h
 | mv t=>exact h
 | ptr=>exact h.2
 | st s=>cases hu
 | int k=>exact h.2
 | bool=>exact h.2
 | str=>exact h.2
theorem bh.Nr{v:TV}{x:Value}{fp:List Nat}{id:Nat}{G:Gh}{lk:Nat->Option aB}(h:bh c G sl n lk a w)(hO:xd w v x fp)(dh:fp.Nodup)(hF:Fr c G lk w fp)
  (aU:∀ p∈bP id v.cells,lk p.1=none) (oP:((bP id v.cells).map (·.1)).Nodup) (hR:∀ j,id<=j->c.R j=none) :
  ∃ G' lk',(∀ i,lk' i=fT (bP id v.cells) lk i)/\bh c G' sl n lk' a w/\Ext G lk G' lk'/\TR c G' lk' w (iw id v) x/\∀ fq,Fr c G lk w fq->(∀ b∈fq,b∉fp)->Fr c G' lk' w fq:=by
 have one:v.τ.agg=false->v.cells=[v]->iw id v=jA id v->Ow w v.aK [x] fp->∃ G' lk',(∀ i,lk' i=fT (bP id v.cells) lk i)/\bh c G' sl n lk' a w/\Ext G lk G' lk'/\TR c G' lk' w (iw id v) x/\∀ fq,Fr c G lk w fq->(∀ b∈fq,b∉fp)->Fr c G' lk' w fq:=by
  intro hv hc hov hO;rw[hc] at aU oP;obtain⟨G',lk',k1,k2,k3,k4,k5⟩:=h.xN (us:=[v]) (cs:=[x]) (fp:=fp) (by simpa using hv) ⟨x,[],fp,[],rfl,by simp,hO,rfl,rfl⟩ dh hF aU oP hR;rw[hc,hov];exact⟨G',lk',k1,k2,k3,C1.a9w k4.1 hv,k5⟩
 obtain⟨τ,y⟩:=v;cases τ with
 | st s =>
  obtain⟨cs,rfl,hO⟩:=hO;rw[aL.bX] at hO;obtain⟨G',lk',k1,k2,k3,k4,k5⟩:=h.xN (us:=s.cells y) (cs:=cs) (fp:=fp) (N2 s y) hO dh hF aU oP hR;exact⟨G',lk',k1,k2,k3,⟨cs,rfl,k4⟩,k5⟩
 | slice t=>exact one rfl rfl rfl hO
 | mv t=>exact one rfl rfl rfl hO
 | ptr=>exact one rfl rfl rfl hO
 | int k=>exact one rfl rfl rfl hO
 | bool=>exact one rfl rfl rfl hO
 | str=>exact one rfl rfl rfl hO
theorem a0b{r r':List (Nat×aB)}(hd:∀ p∈r',ai r p.1=none)(lk:Nat->Option aB)(i:Nat):fT r' (fT r lk) i=fT (r++r') lk i:=by
 rw[L7];unfold fT;cases hx:ai r' i with
 | none=>rfl
 | some o =>
  have:=hd _ (fC hx);simp only[] at this ⊢;rw[this]
theorem bh.HP:∀ {vs:List TV} {xs:List Value} {fp:List Nat} {id:Nat} {G:Gh} {lk:Nat->Option aB},bh c G sl n lk a w->HL w vs xs fp->fp.Nodup->Fr c G lk w fp ->
  (∀ p∈bj id vs,lk p.1=none)->((bj id vs).map (·.1)).Nodup->(∀ j,id<=j->c.R j=none) ->
  ∃ G' lk',(∀ i,lk' i=fT (bj id vs) lk i)/\bh c G' sl n lk' a w/\Ext G lk G' lk'/\aN (TR c G' lk' w) (Jl id vs) xs/\∀ fq,Fr c G lk w fq->(∀ b∈fq,b∉fp)->Fr c G' lk' w fq
 | [],[],fp,id,G,lk,h,_,_,_,_,_,_=>⟨G,lk,λ _=>rfl,h,Ext.refl _ _,ag,λ fq hq _=>hq⟩
 | v::vs,x::xs,fp,id,G,lk,h,hO,dh,hF,aU,oP,hR=>by
  obtain⟨f1,f2,rfl,h1,h2⟩:=hO;rw[b1e] at dh;obtain⟨nd1,nd2,nd3⟩:=dh;simp only[bj,b2b] at oP;rw[b1e] at oP;obtain⟨d1,d2,d3⟩:=oP;obtain⟨G1,sV,l1,i1,e1,c1,WV⟩:=h.Nr (id:=id) h1 nd1 (λ b hb=>hF b (by simp[hb])) (λ p hp=>aU p (by simp[bj,hp])) d1 hR;have dD:∀ p∈bj (id+20) vs,ai (bP id v.cells) p.1=none:=λ p hp=>PC λ q hq e=>d3 q.1 (b0P.2 ⟨q,hq,rfl⟩) p.1 (b0P.2 ⟨p,hp,rfl⟩) e;obtain⟨G2,lk2,k1,k2,k3,k4,k5⟩:=bh.HP (vs:=vs) (xs:=xs) (fp:=f2) (id:=id+20) i1 h2 nd2
   (WV f2 (λ b hb=>hF b (by simp[hb])) (λ b hb cv=>nd3 b cv b hb rfl)) (λ p hp=>by rw[l1 p.1];unfold fT;rw[dD p hp];exact aU p (by simp[bj,hp])) d2 (λ j hj=>hR j (by omega))
  refine⟨G2,lk2,λ i=>?_,k2,e1.trans k3,⟨c1.ext k3,k4⟩,λ fq hq vZ=>k5 fq (WV fq hq λ b hb cv=>vZ b hb (by simp[cv])) λ b hb cv=>vZ b hb (by simp[cv])⟩;rw[k1 i,show sV=fT (bP id v.cells) lk from funext l1];exact a0b dD lk i
 | [],_::_,_,_,_,_,_,hO,_,_,_,_,_=>hO.elim
 | _::_,[],_,_,_,_,_,hO,_,_,_,_,_=>hO.elim
theorem nt(r r':List (Nat×aB))(i:Nat):ai (r++r') i=fT r (ai r') i:=by
 unfold fT;induction r with
 | nil=>rfl
 | cons p r ih =>
  obtain⟨k,o⟩:=p;rw[b1B,dx,dx];by_cases hj:i=k
  .simp[hj]
  .simpa [hj] using ih
theorem Ht{id:Nat}{res:List TV}{x:Value}{fp:List Nat}(h:FY w res x fp):∃ xs,HL w res xs fp/\∀ (G:Gh) (lk:Nat->Option aB),aN (TR c G lk w) (Jl id res) xs->VR c G lk w (jm id res) x:=by
 match res,h with
 | [v],h=>exact⟨[x],⟨fp,[],by simp,h,rfl⟩,λ G lk ha=>ha.1.fE⟩
 | [],h =>
  obtain⟨l,h1,h2⟩:=h;exact⟨l,h2,λ G lk ha=>⟨l,h1,ha⟩⟩
 | v::u::r,h =>
  obtain⟨l,h1,h2⟩:=h;exact⟨l,h2,λ G lk ha=>⟨l,h1,ha⟩⟩
end
section
variable {c:Ctx} {G:Gh} {s:aj} {a:Act} {w w':World}
theorem de:∀ {l:List Nat},nodupB l=true->l.Nodup
 | [],_=>b1V
 | a::r,h=>by
  simp only[nodupB] at h;split at h
  .cases h
  .rename_i hc;exact List.nodup_cons.2 ⟨by simpa using hc,de h⟩
theorem PZ(hE:bp c.P c.E)(h:Inv c G s a w){o:Oper}{f:FuncId}{Ts:List TypeId}{vs:List AV}{xs:List Value}{Z9:List Arg}{pre:Vc}{res:List TV}{d b:Nat}{Q:Exit->Act->World->Prop}
  (has:kJ c.E s.ai Ts vs=some Z9) (kq:aN (VR c G s.ai w) vs xs) (hc:c.E.Jg f Z9=some (pre,res)) (O9:pre.ok) (hd:o.dst=some d)
  (rB:∀ p∈bj b res,s.ai p.1=none) (oP:((bj b res).map (·.1)).Nodup) (hR:100<=b)
  (cE:jt c.P f->(execOp a.eval o).run c.P w = .ok (.enter f xs.toArray) w) :
  o.wp c.P a w (λ a' w'=>∃ G',Inv c G' { aC:=s.aC.set d (jm b res),aJ:=bj b res++s.aJ } a' w') Q:=by
 obtain⟨px,jL⟩:=hE.Jg f Z9 pre res hc O9;unfold Oper.wp;rw[cE px];simp only[Oper.upon];refine (jL w (SX G s.ai) xs [] ?_ (.PX (gN hE h (λ _ _ h=>h) (λ _ h => .inl h) (λ τ v x y h1 h2=>vL h.aR h.aJ (λ _ _ h=>h) h1 h2) has kq)) (.inl rfl) List.nodup_nil (by simp)).mono ?_
 .exact h.V9
 .rintro e w' ⟨x,fp,rfl,hk,hO,dh,lZ⟩;have hk:bK (λ _=>False) w w':=⟨hk.os,hk.tape,hk.output,hk.size,λ b hb _=>hk.block b hb (by simp)⟩;have lZ:∀ b∈fp,w.heap.size<=b/\b<w'.heap.size:=λ b hb=>(lZ b hb).resolve_left (by simp);have hI:=bh.grow h hk (S':=G.S) (λ _ _=>b2F) (λ b hb=>b0V (h.dE b hb) hk.size);obtain⟨ys,rz,Pd⟩:=Ht (c:=c) (id:=b) hO;have hF:Fr c ⟨G.S,G.η,G.φ⟩ s.ai w' fp:=λ b hb=>by
   obtain⟨h1,h2⟩:=lZ b hb;have:=h.aM.size;refine⟨.inl (by omega),λ hs=>?_,h2,λ i o' hi rA=>?_,λ j τ zs hj lX=>?_⟩
   .have:=h.dE b hs;omega
   .have:=(h.place i o' b hi rA).2.2;omega
   .have:=(h.aR.pl j τ zs b hj lX).2.2.1;omega
  obtain⟨G',lk',k1,k2,k3,k4,_⟩:=hI.HP (id:=b) rz dh hF rB oP (λ j hj=>by
   cases hr:c.R j with
   | none=>rfl
   | some v=>have:=h.fP j v hr;omega)
  refine⟨G',?_⟩;have bW:aj.ai { aC:=s.aC.set d (jm b res),aJ:=bj b res++s.aJ }=lk':=by
   funext i;rw[k1 i];exact nt _ _ i
  unfold Inv;rw[bW,hd,show aj.sl { aC:=s.aC.set d (jm b res),aJ:=bj b res++s.aJ }=iY s.aC.length s.sl (some d) (jm b res) from oB s.aC d _ _,
   show ({ aC:=s.aC.set d (jm b res),aJ:=bj b res++s.aJ }:aj).aC.length=s.aC.length from by simp]
  exact bh.put k2 (Pd G' lk' k4)
end
theorem eZ{α:Type}:∀ {l:List (Nat×α)} {id:Nat} {o:α},ai l id=some o->(id,o)∈l
 | (k,p)::r,id,o,h=>by
  simp only[ai] at h;split at h
  .rename_i hk;have hk:=b0L hk;simp only[b0J] at h;subst hk h;simp
  .exact b1O _ (eZ h)
theorem sW{α:Type}:∀ {l:List (Nat×α)} {id:Nat} {o:α},(l.map (·.1)).Nodup->(id,o)∈l->ai l id=some o
 | (k,p)::r,id,o,hd,h=>by
  simp only[b1p,b1q] at hd;simp only[ai];rcases b0X.1 h with e|h
  .simp only[b0M] at e;obtain⟨rfl,rfl⟩:=e;simp
  .split
   .rename_i hk;have hk:=b0L hk;subst hk;exact absurd (b0P.2 ⟨_,h,rfl⟩) hd.1
   .exact sW hd.2 h
section
variable {c:Ctx} {G:Gh} {sl:Nat->AV} {n:Nat} {lk:Nat->Option aB} {a:Act} {w w':World}
abbrev TE:=Value×List Nat×aB
def DN(A:List (Nat×TE))(G:Gh)(i:Nat):Value:=match ai A i with
 | some e=>e.1
 | none=>G.η i
def wY(A:List (Nat×TE))(G:Gh)(i:Nat):List Nat:=match ai A i with
 | some e=>e.2.1
 | none=>G.φ i
def Wc(A:List (Nat×TE))(lk:Nat->Option aB)(i:Nat):Option aB:=match ai A i with
 | some e=>some e.2.2
 | none=>lk i
structure a0A(G:Gh)(lk:Nat->Option aB)(w':World)(id:Nat)(e:TE):Prop where
 ex:∃ τ xs cK v l l',lk id=some (.aE τ xs)/\e.2.2 = .aE τ cK/\G.η id = .tuple (v::l).toArray/\e.1 = .tuple (v::l').toArray/\ij w' e.1 τ cK e.2.1/\e.2.1.Nodup
theorem E1.ofList{A:List (Nat×TE)}(hA:∀ p∈A,a0A G lk w' p.1 p.2)(Xd:∀ p∈A,∀ b∈p.2.2.1,(∃ q∈A,b∈G.φ q.1)\/sM c G lk w' b)(Te:∀ p∈A,∀ q∈A,∀ b∈p.2.2.1,b∈q.2.2.1->p.1=q.1)(dh:(A.map (·.1)).Nodup)
  (a6u:∀ b,b<w.heap.size->(∀ p∈A,b∉G.φ p.1)->w'.heap[b]?=w.heap[b]?) (hos:w'.os=w.os) (Xl:w'.tape=w.tape) (RU:w'.output=w.output) (xw:w.heap.size<=w'.heap.size) :
  E1 c G lk (Wc A lk) w w' (DN A G) (wY A G) (λ i=>∃ e,ai A i=some e) where
 same id hi:=by
  have:ai A id=none:=by
   cases hx:ai A id with
   | none=>rfl
   | some e=>exact absurd ⟨e,hx⟩ hi
  simp[Wc,DN,wY,this]
 aE id:=by
  rintro⟨e,he⟩;obtain⟨τ,xs,cK,v,l,l',h1,h2,h3,h4,h5,h6⟩:=(hA _ (eZ he)).ex;refine⟨τ,xs,cK,v,l,l',h1,?_,h3,?_,?_,?_⟩
  .simp only[Wc,he];rw[<-h2]
  .simp only[DN,he];exact h4
  .simp only[DN,wY,he];exact h5
  .simp only[wY,he];exact h6
 a4T id b:=by
  rintro⟨e,he⟩ hb;simp only[wY,he] at hb;rcases Xd _ (eZ he) b hb with ⟨q,hq,hbq⟩|Tm
  .exact .inl ⟨q.1,⟨q.2,sW dh hq⟩,hbq⟩
  .exact .inr Tm
 apart id dt b:=by
  rintro⟨e,he⟩ ⟨e',yw⟩ hb cv;simp only[wY,he] at hb;simp only[wY,yw] at cv;exact Te _ (eZ he) _ (eZ yw) b hb cv
 heap b hb hn:=a6u b hb λ p hp=>hn p.1 ⟨p.2,sW dh hp⟩
 os:=hos
 tape:=Xl
 output:=RU
 size:=xw
def tB(G:Gh)(lk:Nat->Option aB)(ids:List Nat)(b:Nat):Prop :=
 ∃ id∈ids,(∃ τ xs,lk id=some (.aE τ xs)/\b∈G.φ id)\/∃ e τ xs,lk id=some (.row e τ xs)/\dw (G.η id)=some b
theorem tB.mono{ids CT:List Nat}{b:Nat}(h:tB G lk ids b)(hs:∀ i∈ids,i∈CT):tB G lk CT b:=by
 obtain⟨id,hi,h⟩:=h;exact⟨id,hs id hi,h⟩
theorem bh.hU(h:bh c G sl n lk a w){i j:List Nat}{b:Nat}(hi:tB G lk i b)(hj:tB G lk j b)(hd:∀ x∈i,∀ y∈j,x≠y):False:=by
 obtain⟨x,hx,h1⟩:=hi;obtain⟨y,hy,h2⟩:=hj;rcases h1 with ⟨τ,xs,k1,k2⟩|⟨e,τ,xs,k1,k2⟩<;>rcases h2 with ⟨aW,cK,m1,m2⟩|⟨e',aW,cK,m1,m2⟩
 .exact hd x hx y hy (h.aR.ap x y τ aW xs cK b k1 m1 k2 m2)
 .exact (h.aR.pl x τ xs b k1 k2).2.2.2 y _ m1 m2
 .exact (h.aR.pl y aW cK b m1 m2).2.2.2 x _ k1 k2
 .exact hd x hx y hy (h.apart x y _ _ b k1 m1 k2 m2)
theorem qB{τ:Ty}(h:τ.qA=true)(y:τ.den):(τ.aK y).light=true:=by
 cases τ<;>first|rfl|cases h
theorem PA:∀ {l:List D},(∀ d∈l,d.light=true)->D.D4 l=true
 | [],_=>rfl
 | d::ds,h=>by
  simp only[D.D4,b0U];exact⟨h d (by simp),PA λ e he=>h e (b1O _ he)⟩
theorem TU{τ:Ty}(h:τ.plain=true)(y:τ.den):(τ.aK y).light=true:=by
 cases τ with
 | st s =>
  show (s.aK y).light=true;rw[aL.bX];refine PA λ d hd=>?_;obtain⟨u,hu,rfl⟩:=b0P.1 hd;have ht:u.τ∈s.nk:=by rw[<-aL.jd s y];exact b0P.2 ⟨u,hu,rfl⟩
  exact qB (b1u.1 h _ ht) u.x
 | slice t=>cases h
 | mv t=>cases h
 | ptr=>rfl
 | int k=>rfl
 | bool=>rfl
 | str=>rfl
theorem wX(h:bh c G sl n lk a w){τ:Ty}{v:AV}{x:Value}{y:τ.den}{ids:List Nat}(ht:eO lk τ v=some (y,ids))(hv:C1 c G lk w v x):∃ fp,Ow w (τ.aK y) [x] fp/\fp.Nodup/\∀ b∈fp,tB G lk ids b:=by
 cases v with
 | aO u =>
  simp only[eO] at ht;split at ht
  .rename_i y' hs hy;simp only[b0J,b0M] at ht;obtain⟨rfl,rfl⟩:=ht;have e:=TV.aT hy;subst e;exact⟨[],Ow.eK _ (qB hs _) hv.2,b1V,by simp⟩
  .cases ht
 | nil =>
  cases τ with
  | slice t =>
   simp only[eO,b0J,b0M] at ht;obtain⟨rfl,rfl⟩:=ht;exact⟨[],⟨none,0,by rw[show x=_ from hv];rfl,by simp,by simp[maxLen],by simp, .inl ⟨rfl,⟨rfl,rfl⟩,rfl⟩⟩,b1V,by simp⟩
  | _=>cases ht
 | aE id =>
  simp only[eO] at ht;split at ht
  .rename_i aW xs hl;split at ht
   .rename_i y' hy;simp only[b0J,b0M] at ht;obtain⟨rfl,rfl⟩:=ht;have e:=TV.aT hy;cases e;obtain⟨_,l,h2,_⟩:=hv;exact⟨G.φ id,Ow.XC (h.aR.tr id aW xs hl) h2,h.aR.nd id aW xs hl,λ b hb=>⟨id,by simp, .inl ⟨aW,xs,hl,hb⟩⟩⟩
   .cases ht
  .cases ht
 | row id =>
  simp only[eO] at ht;split at ht
  .rename_i e aW xs hl;split at ht
   .rename_i y' hp hy;simp only[b0J,b0M] at ht;obtain⟨rfl,rfl⟩:=ht;have e1:=TV.aT hy;cases e1;obtain⟨hx,_,_⟩:=hv;obtain⟨l,h1,h2,h3⟩:=h.aJ id _ hl;have a3Q:∀ d∈xs.map aW.aK,d.light=true:=λ d hd=>by
     obtain⟨z,_,rfl⟩:=b0P.1 hd;exact TU hp z
    rcases h1.2 with ⟨Tv,hn⟩|⟨g,cap,cur,Tv,_,hh,QX,W9,iP,htk⟩
    .have kq:xs=[]:=b1W hn;subst kq;exact⟨[],⟨none,0,by rw[hx,Tv];rfl,by simp,by simp[maxLen],by simp, .inl ⟨rfl,⟨rfl,rfl⟩,rfl⟩⟩,b1V,by simp⟩
    .refine⟨[g],⟨some ⟨g,0,none⟩,cap,by rw[hx,Tv];simp,by simpa using QX,W9,by simpa using h3, .inr ⟨g,[],cur.toList,e,rfl,rfl,by simpa using hh,?_⟩⟩,by simp,λ b hb=>?_⟩
     .have hr:=bN.eK (w:=w) (S:=G.S) (xs.map aW.aK) (l:=l) (m:=cur.toList.drop (xs.length * aW.size)) a3Q h2;rw[<-htk,b2q] at hr;exact⟨by rw[b1K];exact iP,hr⟩
     .simp only[b0Z] at hb;subst hb;exact⟨id,by simp, .inr ⟨e,aW,xs,hl,by rw[Tv];rfl⟩⟩
   .cases ht
  .cases ht
 | _=>cases ht
theorem dR{l1 l2:List Nat}(h1:l1.Nodup)(h2:l2.Nodup)(h3:∀ x∈l1,x∉l2):(l1++l2).Nodup:=by
 rw[b1e];exact⟨h1,h2,λ x hx y hy e=>h3 x hx (e ▸ hy)⟩
theorem JG(h:bh c G sl n lk a w):∀ {cs:List AV} {ts:List Ty} {us:List TV} {ids:List Nat} {l:List Value},JF lk cs ts=some (us,ids)->aN (C1 c G lk w) cs l->ids.Nodup ->
  ∃ fp,cY w (us.map TV.aK) l fp/\fp.Nodup/\(∀ b∈fp,tB G lk ids b)/\us.map TV.τ=ts
 | [],[],us,ids,l,ht,hl,_=>by
  simp only[JF,b0J,b0M] at ht;obtain⟨rfl,rfl⟩:=ht;match l,hl with
  | [],_=>exact⟨[],⟨rfl,rfl⟩,b1V,by simp,rfl⟩
 | cc::cs,t::ts,us,ids,l,ht,hl,dh=>by
  simp only[JF] at ht;split at ht
  .rename_i x i hx;split at ht
   .rename_i r j hr;simp only[b0J,b0M] at ht;obtain⟨rfl,rfl⟩:=ht;match l,hl with
    | v::l,hl =>
     rw[b1e] at dh;obtain⟨n1,n2,n3⟩:=dh;obtain⟨f1,a1,a2,a3⟩:=wX h hx hl.1;obtain⟨f2,b1,b2,b3,b4⟩:=JG h hr hl.2 n2;refine⟨f1++f2,⟨v,l,f1,f2,rfl,rfl,a1,b1⟩,dR a2 b2 λ b hb cv=>h.hU (a3 b hb) (b3 b cv) (λ x hx y hy=>n3 x hx y hy),λ b hb=>?_,by simp[b4]⟩;rcases b0K.1 hb with hb|hb
     .exact (a3 b hb).mono λ k hk=>by simp[hk]
     .exact (b3 b hb).mono λ k hk=>by simp[hk]
   .cases ht
  .cases ht
 | [],_::_,_,_,_,ht,_,_=>by cases ht
 | _::_,[],_,_,_,ht,_,_=>by cases ht
theorem qE(h:bh c G sl n lk a w){τ:Ty}{v:AV}{x:Value}{y:τ.den}{ids:List Nat}(ht:HF lk τ v=some (y,ids))(hv:VR c G lk w v x)(dh:ids.Nodup):∃ fp,xd w ⟨τ,y⟩ x fp/\fp.Nodup/\∀ b∈fp,tB G lk ids b:=by
 have one:(∀ cs,v ≠ .agg cs)->eO lk τ v=some (y,ids)->∃ fp,xd w ⟨τ,y⟩ x fp/\fp.Nodup/\∀ b∈fp,tB G lk ids b:=by
  intro hna ht;have cf:∀ s,τ ≠ .st s:=λ s e=>by
   subst e;cases v with
   | aO u=>simp[eO,Ty.qA] at ht
   | nil=>simp[eO] at ht
   | aE id =>
    simp only[eO] at ht;split at ht
    .split at ht
     .rename_i hy;have e:=TV.aT hy;cases e
     .cases ht
    .cases ht
   | row id =>
    simp only[eO] at ht;split at ht
    .split at ht
     .rename_i hy;have e:=TV.aT hy;cases e
     .cases ht
    .cases ht
   | _=>cases ht
  have hc:C1 c G lk w v x:=by
   refine hv.Se ?_;cases v with
   | aO u =>
    simp only[eO] at ht;split at ht
    .rename_i hy;have e:=TV.aT hy;subst e;cases τ<;>first|rfl|exact absurd rfl (cf _)
    .cases ht
   | nil=>rfl
   | aE id=>rfl
   | row id=>rfl
   | _=>cases ht
  obtain⟨fp,h1,h2,h3⟩:=wX h ht hc;refine⟨fp,?_,h2,h3⟩;cases τ with
  | st s=>exact absurd rfl (cf s)
  | _=>exact h1
 cases v with
 | agg cs =>
  cases τ with
  | st s =>
   simp only[HF] at ht;split at ht
   .rename_i us i iP;split at ht
    .rename_i y' hy;simp only[b0J,b0M] at ht;obtain⟨rfl,rfl⟩:=ht;obtain⟨l,rfl,hl⟩:=hv;obtain⟨fp,h1,h2,h3,_⟩:=JG h iP hl dh;refine⟨fp,⟨l,rfl,?_⟩,h2,h3⟩;rw[aL.bX,aL.mn hy];exact h1
    .cases ht
   .cases ht
  | _=>cases ht
 | _=>exact one (by intro cs;simp) ht
theorem cY.split:∀ (ds:List D) {l:List Value} {fp:List Nat} (i:Nat) (d:D),cY w ds l fp->ds[i]?=some d ->
  ∃ v f0 f1 f2,fp=f0++f1++f2/\l[i]?=some v/\Ow w d [v] f1/\∀ (w':World) (d':D) (v':Value) (iB:List Nat),(∀ b∈f0++f2,w'.heap[b]?=w.heap[b]?)->Ow w' d' [v'] iB->cY w' (ds.set i d') (l.set i v') (f0++iB++f2)
 | [],_,_,_,_,_,hi=>by simp at hi
 | e::ds,_,_,0,d,h,hi=>by
  obtain⟨v,r,f1,f2,rfl,rfl,h3,h4⟩:=h;simp at hi;subst hi;exact⟨v,[],f1,f2,by simp,rfl,h3,λ w' d' v' iB hw hd=>⟨v',r,iB,f2,rfl,by simp,hd,cY.aM ds h4 λ b hb=>hw b (by simp[hb])⟩⟩
 | e::ds,_,_,i+1,d,h,hi=>by
  obtain⟨v,r,g1,g2,rfl,rfl,h3,h4⟩:=h;obtain⟨u,f0,f1,f2,rfl,k1,k2,k3⟩:=cY.split ds i d h4 (by simpa using hi);refine⟨u,g1++f0,f1,f2,by simp,by simpa using k1,k2,λ w' d' v' iB hw hd=>?_⟩;exact⟨v,r.set i v',g1,f0++iB++f2,rfl,by simp,Ow.aM e h3 λ b hb=>hw b (by simp[hb]),k3 w' d' v' iB (λ b hb=>hw b (by simp at hb ⊢;rcases hb with hb|hb<;>simp[hb])) hd⟩
theorem L4(v:AV):v.cT=v\/v.cT = .any:=by unfold AV.cT;split<;>simp
theorem Fv(v:AV):v.cT.JB=false:=by
 unfold AV.cT;split
 .rfl
 .assumption
theorem Mj:∀ cs:List AV,AV.nb (cs.map AV.cT)=false
 | []=>rfl
 | v::r=>by simp only[b1p,AV.nb,Fv];exact Mj r
theorem C1.cT{v:AV}{x:Value}(h:C1 c G lk w v x):C1 c G lk w v.cT x:=by
 rcases L4 v with e|e
 .rw[e];exact h
 .rw[e];trivial
theorem FO(o:Option aB):ew o (o.map aB.cT):=by
 refine⟨λ h=>?_,λ e τ xs h=>⟨e,xs,by rw[h];rfl,b1d _⟩,λ h=>?_,λ h=>?_⟩
 .match o,h with
  | some (.box cs),_=>rfl
 .match o,h with
  | some (.aE τ xs),_=>rfl
 .match o,h with
  | some (.map m),_=>rfl
theorem wR{o:Option aB}{τ:Ty}{xs:List τ.den}(h:o.map aB.cT=some (.aE τ xs)):o=some (.aE τ xs):=by
 match o,h with
 | some (.aE aW cK),h=>exact h
 | some (.box _),h=>cases h
 | some (.row ..),h=>cases h
theorem bh.cm(h:bh c G sl n lk a w):bh c G (λ i=>(sl i).cT) n (λ i=>(lk i).map aB.cT) a w:=by
 have h1:bh c G (λ i=>(sl i).cT) n lk a w:=h.forget λ i=>L4 (sl i);exact {
  defers:=h1.defers,size:=h1.size,aM:=h1.aM,iQ:=h1.iQ,eh:=h1.eh,sX:=h1.sX,dE:=h1.dE
  aC:=λ i=>(h1.aC i).mono (λ j _=>⟨FO _,rfl⟩) (λ _ h=>h) (λ _ _=>rfl)
  aJ:=λ i o ho=>by
   rw[b1s] at ho;obtain⟨o',cH,rfl⟩:=ho;have hk:OR c G lk w i o'.cT:=by
    have:=h1.aJ i o' cH;cases o' with
    | box cs =>
     obtain⟨b,l,t,k1,k2,k3⟩:=this;exact⟨b,l,t,k1,k2,aN.dG _ (k3.imp λ u y _ hy=>hy.cT)⟩
    | row e τ xs=>exact this
    | aE τ xs=>exact this
    | map m=>exact this
   exact hk.mono rfl (λ _ _=>rfl) (λ j _=>⟨FO _,rfl⟩) (λ _ h=>h) (λ _ _=>rfl)
  place:=λ i o b ho hb=>by
   rw[b1s] at ho;obtain⟨o',cH,rfl⟩:=ho;exact h1.place i o' b cH hb
  apart:=λ i j o o' b ho cH hb cv=>by
   rw[b1s] at ho cH;obtain⟨p,hp,rfl⟩:=ho;obtain⟨q,hq,rfl⟩:=cH;exact h1.apart i j p q b hp hq hb cv
  aR:=h1.aR.sub (λ i τ xs k=>wR k) (λ i o k=>by
   rw[b1s] at k;obtain⟨p,hp,_⟩:=k;exact⟨p,hp⟩)
  root:=λ i v hr ht=>h1.root i v hr (by
   match hl:lk i,ht with
   | some (.aE ..),_=>rfl
   | some (.box _),ht=>simp[hl,aB.cT,cS] at ht
   | some (.row ..),ht=>simp[hl,aB.cT,cS] at ht
   | none,ht=>simp[hl,cS] at ht)
  fP:=h1.fP
  dq:=λ i v hr ht=>h1.dq i v hr (by
   match hl:lk i,ht with
   | some (.box _),_=>rfl
   | some (.aE ..),ht=>simp[hl,aB.cT,fI] at ht
   | some (.row ..),ht=>simp[hl,aB.cT,fI] at ht
   | none,ht=>simp[hl,fI] at ht)
  eG:=h1.eG }
end
section
variable {c:Ctx} {G:Gh} {s:aj} {a:Act} {w w':World}
theorem Qm(s:aj):s.cm.sl=λ i=>(s.sl i).cT:=by
 funext i;simp only[aj.sl,aj.cm,b0S,b2i];cases s.aC[i]?<;>rfl
theorem jk(s:aj):s.cm.ai=λ i=>(s.ai i).map aB.cT:=by
 funext i;exact D5 _ _ _
theorem Inv.cm(h:Inv c G s a w):Inv c G s.cm a w/\(∀ i,(s.cm.sl i).JB=false)/\∀ id cs,s.cm.ai id=some (.box cs)->AV.nb cs=false:=by
 refine⟨?_,λ i=>by rw[Qm];exact Fv _,λ id cs aU=>?_⟩
 .unfold Inv;rw[Qm,jk,show s.cm.aC.length=s.aC.length from by simp[aj.cm]];exact bh.cm h
 .rw[jk] at aU;simp only[b1s] at aU;obtain⟨o,_,ho⟩:=aU;cases o with
  | box dC=>cases ho;exact Mj dC
  | row e τ xs=>cases ho
  | aE τ xs=>cases ho
  | map m=>cases ho
theorem Inv.Zq(h:Inv c G s a w){A:List (Nat×TE)}(hA:∀ p∈A,a0A G s.ai w' p.1 p.2)(Xd:∀ p∈A,∀ b∈p.2.2.1,(∃ q∈A,b∈G.φ q.1)\/sM c G s.ai w' b)(Te:∀ p∈A,∀ q∈A,∀ b∈p.2.2.1,b∈q.2.2.1->p.1=q.1)(dh:(A.map (·.1)).Nodup)
  {F:Nat->Prop} (hk:bK F w w') (hF:∀ b,F b->∃ p∈A,b∈G.φ p.1) {t:aj} (Z8:t.aC=s.cm.aC) (BS:∀ i,t.ai i=Wc A s.cm.ai i) {d:Option Nat} {v:AV} {x:Value} (hv:∀ G' lk,VR c G' lk w' v x) :
  ∃ G',Inv c G' (t.put d v) (a.put d x) w':=by
 obtain⟨h1,h2,h3⟩:=h.cm;have hA':∀ p∈A,a0A G s.cm.ai w' p.1 p.2:=λ p hp=>by
  obtain⟨τ,xs,cK,v,l,l',k1,k2⟩:=(hA p hp).ex;exact⟨τ,xs,cK,v,l,l',by rw[jk];simp[k1,aB.cT],k2⟩
 have a3N:∀ p∈A,∀ b∈p.2.2.1,(∃ q∈A,b∈G.φ q.1)\/sM c G s.cm.ai w' b:=λ p hp b hb=>(Xd p hp b hb).imp id λ ⟨q1,q2,q3,q4,q5⟩ =>
  ⟨q1,q2,q3,λ i o hi=>by
   rw[jk] at hi;simp only[b1s] at hi;obtain⟨o',cH,_⟩:=hi;exact q4 i o' cH,λ j τ xs hj=>q5 j τ xs (by rw[jk] at hj;exact wR hj)⟩
 have T:=E1.ofList (c:=c) (w:=w) hA' a3N Te dh (λ b hb hn=>hk.block b hb λ hf=>by
  obtain⟨p,hp,hbp⟩:=hF b hf;exact hn p hp hbp) hk.os hk.tape hk.output hk.size
 have hI:=bh.eI h1 T h2 h3;refine⟨_,Inv.put (G:=⟨G.S,DN A G,wY A G⟩) ?_ (hv _ _)⟩;unfold Inv;rw[show t.sl=s.cm.sl from by funext i;simp only[aj.sl,Z8],show t.ai=Wc A s.cm.ai from funext BS,Z8];exact hI
theorem Qy(id:Nat)(e:TE)(lk:Nat->Option aB)(i:Nat):Wc [(id,e)] lk i=if i=id then some e.2.2 else lk i:=by
 unfold Wc;simp only[ai];by_cases hi:i=id
 .subst hi;simp
 .have:Nat.beq id i=false:=by
   cases hb:Nat.beq id i with
   | false=>rfl
   | true=>exact absurd (b0L hb).symm hi
  simp[this,hi]
theorem jE(s:aj)(id:Nat)(τ:Ty)(xs:List τ.den)(i:Nat):(s.fQ id τ xs).ai i=if i=id then some (.aE τ xs) else s.ai i:=by
 show ai ((id,_)::bF id s.aJ) i=_;rw[dx,er];by_cases hi:i=id
 .simp[hi]
 .simp[hi];rfl
theorem a4o{lk:Nat->Option aB}{k:Int}(h:av k):VR c G lk w (.aO ⟨.int .i64,k⟩) (.int .i64 k):=by
 refine⟨rfl,?_⟩;simp only[IntKind.min,IntKind.max,IntKind.signed,IntKind.bits,b2G];obtain⟨q1,q2⟩:=h;constructor<;>omega
theorem a1w(h:Inv c G s a w){b:Nat}(h1:w.heap.size<=b)(h2:b<w'.heap.size):sM c G s.ai w' b:=by
 have:=h.aM.size;refine⟨.inl (by omega),λ hs=>by have:=h.dE b hs;omega,h2,λ i o hi rA=>by have:=(h.place i o b hi rA).2.2;omega,λ j τ xs hj lX=>by have:=(h.aR.pl j τ xs b hj lX).2.2.1;omega⟩
theorem wV{f0 f1 f2 iB:List Nat}(h:(f0++f1++f2).Nodup)(h1:iB.Nodup)(hs:∀ b∈iB,b∈f1\/(b∉f0/\b∉f2)):(f0++iB++f2).Nodup:=by
 rw[b1e,b1e] at h;obtain⟨⟨a1,a2,a3⟩,a4,a5⟩:=h;refine dR (dR a1 h1 λ x hx uu=>(hs x uu).elim (λ q=>a3 x hx x q rfl) λ q=>q.1 hx) a4 λ x hx uu=>?_;rcases b0K.1 hx with hx|hx
 .exact a5 x (by simp[hx]) x uu rfl
 .exact (hs x hx).elim (λ q=>a5 x (by simp[q]) x uu rfl) λ q=>q.2 uu
theorem Md{w:World}{τ τm:Ty}{x:τ.den}{off:Nat}{u:TV}(hu:TV.part ⟨τ,x⟩ off τm=some u)(cf:τm.agg=false){ce:List Value}{fp:List Nat}(hO:Ow w (τ.aK x) ce fp) :
  ∃ v f0 f1 f2,fp=f0++f1++f2/\ce[off]?=some v/\Ow w u.aK [v] f1/\∀ (w':World) (u':TV) (y:τ.den) (v':Value) (iB:List Nat),mo τ x off u'=some y->(∀ b∈f0++f2,w'.heap[b]?=w.heap[b]?)->Ow w' u'.aK [v'] iB->Ow w' (τ.aK y) (ce.set off v') (f0++iB++f2):=by
 cases τ with
 | st s =>
  have lY:(s.cells x)[off]?=some u:=by
   unfold TV.part at hu;split at hu
   .rename_i hb;simp only[b0U] at hb;have:=b1n hb.2;have e:Ty.st s=τm:=this;subst e;cases cf
   .split at hu
    .rename_i z hz;split at hu
     .simp only[b0J] at hu;subst hu;exact hz
     .cases hu
    .cases hu
  rw[show Ty.aK (.st s) x=s.aK x from rfl,aL.bX] at hO;obtain⟨v,f0,f1,f2,h1,h2,h3,h4⟩:=cY.split _ off u.aK hO (by rw[b2i,lY];rfl);refine⟨v,f0,f1,f2,h1,h2,h3,λ w' u' y v' iB hp hw rz=>?_⟩;simp only[mo,lY] at hp;split at hp
  .have hy:=aL.mn hp;rw[show Ty.aK (.st s) y=s.aK y from rfl,aL.bX,hy,b4z];exact h4 w' u'.aK v' iB hw rz
  .cases hp
 | slice t =>
  have nY:off=0/\u=⟨.slice t,x⟩:=by
   unfold TV.part at hu;split at hu
   .rename_i hb;simp only[b0U] at hb;simp only[b0J] at hu;exact⟨b0L hb.1,hu.symm⟩
   .split at hu
    .rename_i z hz;cases off with
     | zero=>simp[TV.cells] at hz;subst hz;split at hu<;>simp_all
     | succ k=>simp[TV.cells] at hz
    .cases hu
  obtain⟨rfl,rfl⟩:=nY;have hl:=Ow.length _ hO;match ce,hl with
  | [v],_ =>
   refine⟨v,[],fp,[],by simp,rfl,hO,λ w' u' y v' iB hp _ rz=>?_⟩;simp only[mo] at hp;have e:=TV.aT hp;subst e;rw[b1v,b1E];exact rz
 | mv t =>
  have nY:off=0/\u=⟨.mv t,x⟩:=by
   unfold TV.part at hu;split at hu
   .rename_i hb;simp only[b0U] at hb;simp only[b0J] at hu;exact⟨b0L hb.1,hu.symm⟩
   .split at hu
    .rename_i z hz;cases off with
     | zero=>simp[TV.cells] at hz;subst hz;split at hu<;>simp_all
     | succ k=>simp[TV.cells] at hz
    .cases hu
  obtain⟨rfl,rfl⟩:=nY;have hl:=Ow.length _ hO;rw[Ty.cz] at hl;match ce,hl with
  | [v],_ =>
   refine⟨v,[],fp,[],by simp,rfl,hO,λ w' u' y v' iB hp _ rz=>?_⟩;simp only[mo] at hp;have e:=TV.aT hp;subst e;rw[b1v,b1E];exact rz
 | ptr =>
  have nY:off=0/\u=⟨.ptr,x⟩:=by
   unfold TV.part at hu;split at hu
   .rename_i hb;simp only[b0U] at hb;simp only[b0J] at hu;exact⟨b0L hb.1,hu.symm⟩
   .split at hu
    .rename_i z hz;cases off with
     | zero=>simp[TV.cells] at hz;subst hz;split at hu<;>simp_all
     | succ k=>simp[TV.cells] at hz
    .cases hu
  obtain⟨rfl,rfl⟩:=nY;have hl:=Ow.length _ hO;rw[Ty.cz] at hl;match ce,hl with
  | [v],_ =>
   refine⟨v,[],fp,[],by simp,rfl,hO,λ w' u' y v' iB hp _ rz=>?_⟩;simp only[mo] at hp;have e:=TV.aT hp;subst e;rw[b1v,b1E];exact rz
 | int k =>
  have nY:off=0/\u=⟨.int k,x⟩:=by
   unfold TV.part at hu;split at hu
   .rename_i hb;simp only[b0U] at hb;simp only[b0J] at hu;exact⟨b0L hb.1,hu.symm⟩
   .split at hu
    .rename_i z hz;cases off with
     | zero=>simp[TV.cells] at hz;subst hz;split at hu<;>simp_all
     | succ k=>simp[TV.cells] at hz
    .cases hu
  obtain⟨rfl,rfl⟩:=nY;have hl:=Ow.length _ hO;match ce,hl with
  | [v],_ =>
   refine⟨v,[],fp,[],by simp,rfl,hO,λ w' u' y v' iB hp _ rz=>?_⟩;simp only[mo] at hp;have e:=TV.aT hp;subst e;rw[b1v,b1E];exact rz
 | bool =>
  have nY:off=0/\u=⟨.bool,x⟩:=by
   unfold TV.part at hu;split at hu
   .rename_i hb;simp only[b0U] at hb;simp only[b0J] at hu;exact⟨b0L hb.1,hu.symm⟩
   .split at hu
    .rename_i z hz;cases off with
     | zero=>simp[TV.cells] at hz;subst hz;split at hu<;>simp_all
     | succ k=>simp[TV.cells] at hz
    .cases hu
  obtain⟨rfl,rfl⟩:=nY;have hl:=Ow.length _ hO;match ce,hl with
  | [v],_ =>
   refine⟨v,[],fp,[],by simp,rfl,hO,λ w' u' y v' iB hp _ rz=>?_⟩;simp only[mo] at hp;have e:=TV.aT hp;subst e;rw[b1v,b1E];exact rz
 | str =>
  have nY:off=0/\u=⟨.str,x⟩:=by
   unfold TV.part at hu;split at hu
   .rename_i hb;simp only[b0U] at hb;simp only[b0J] at hu;exact⟨b0L hb.1,hu.symm⟩
   .split at hu
    .rename_i z hz;cases off with
     | zero=>simp[TV.cells] at hz;subst hz;split at hu<;>simp_all
     | succ k=>simp[TV.cells] at hz
    .cases hu
  obtain⟨rfl,rfl⟩:=nY;have hl:=Ow.length _ hO;match ce,hl with
  | [v],_ =>
   refine⟨v,[],fp,[],by simp,rfl,hO,λ w' u' y v' iB hp _ rz=>?_⟩;simp only[mo] at hp;have e:=TV.aT hp;subst e;rw[b1v,b1E];exact rz
theorem VY(l:List Value)(o n k:Nat)(v:Value)(hk:k<n)(hl:o+n<=l.length):l.take o++((l.drop o).take n).set k v++l.drop (o+n)=l.set (o+k) v:=by
 conv=>rhs;rw[<-b2q o l]
 rw[b3q _ _ (by simp;omega),b1o];congr 1;have e:o+k - (List.take o l).length=k:=by rw[b1T];omega
 rw[e];conv=>rhs;rw[<-b2q n (l.drop o)]
 rw[List.set_append_left _ _ (by rw[b1T,b1Z];omega),b4f]
theorem X6{w:World}{η:Value}{τ τm:Ty}{xs:List τ.den}{fp:List Nat}(hT:ij w η τ xs fp)(dh:fp.Nodup){a0:Option Addr}{n cap:Nat}{l:List Value}(eY:η = .tuple (.slice a0 n cap::l).toArray){i off:Nat}(hi:i<n){u:TV}
  (hu:TV.part ⟨τ,xs.getD i τ.zero⟩ off τm=some u) (cf:τm.agg=false) (nY:off<τ.size):n=xs.length /\
  ∃ v f1,l[i * τ.size+off]?=some v/\Ow w u.aK [v] f1/\f1.Nodup/\(∀ b∈f1,b∈fp)/\∀ (w':World) (u':TV) (y:τ.den) (v':Value) (iB:List Nat),mo τ (xs.getD i τ.zero) off u'=some y->(∀ b∈fp,b∉f1->(a0=some ⟨b,0,none⟩->∃ t,w'.heap[b]?=some (.cells (l.set (i * τ.size+off) v').toArray t (0,0)))/\(a0≠some ⟨b,0,none⟩->w'.heap[b]?=w.heap[b]?))->Ow w' u'.aK [v'] iB->iB.Nodup->(∀ b∈iB,b∈f1\/b∉fp) ->
   ∃ Cz,ij w' (.tuple (.slice a0 n cap::l.set (i * τ.size+off) v').toArray) τ (xs.set i y) Cz/\Cz.Nodup/\∀ b∈Cz,b∈fp\/b∈iB:=by
 obtain⟨v0,l0,a1,RC,h1,h2,h3,h4,h5,h6⟩:=hT;rw[eY] at h1;simp only[b2p] at h1;have h1:(Value.slice a0 n cap::l)=v0::l0:=congrArg Array.toList h1;simp only[b0O] at h1;obtain⟨hq,uq⟩:=h1;subst uq;rw[h2] at hq;simp only[b2z] at hq;obtain⟨rfl,rfl,rfl⟩:=hq;rcases h6 with ⟨rfl,_,_⟩|⟨b,f,t,rfl,rfl,k1,k0,k2⟩
 .simp at hi
 .have cj:∀ d∈xs.map τ.aK,d.size=τ.size:=by
   intro d hd;obtain⟨z,_,rfl⟩:=b0P.1 hd;exact Ty.cz τ z
  obtain⟨g0,g1,g2,rfl,hlen,m1,m2⟩:=bN.split (xs.map τ.aK) i (τ.aK (xs.getD i τ.zero)) k2 cj (by simp[List.getD,hi]);obtain⟨v,p0,p1,p2,rfl,q1,q2,q3⟩:=Md hu cf m1;have hvl:l[i * τ.size+off]?=some v:=by
   rw[b2e,b0T nY,b2W] at q1;exact q1
  rw[b1q] at dh;obtain⟨hb,dh⟩:=dh;have RT:(p0++p1++p2).Nodup:=by
   rw[b1e,b1e] at dh;exact dh.1.2.1
  have Vd:p1.Nodup:=by
   rw[b1e,b1e] at RT;exact RT.1.2.1
  refine⟨rfl,v,p1,hvl,q2,Vd,λ b hb=>by simp[hb],λ w' u' y v' iB hp hw rz sS Z5=>?_⟩;have dis:∀ c∈g0++(p0++p1++p2)++g2,c∉p1->w'.heap[c]?=w.heap[c]?:=λ c hc hn=>(hw c (b1O _ hc) hn).2 λ e=>by
   simp only[b0J,b2E,b1i] at e;subst e;exact hb hc
  have fu:∀ c,c∈p1->c∈p0++p1++p2:=λ c hc=>by simp[hc]
  rw[b1e,b1e] at dh;obtain⟨⟨n1,n2,n3⟩,n4,n5⟩:=dh;have h0:∀ c∈g0++g2,c∉p1:=λ c hc Ko=>by
   rcases b0K.1 hc with hc|hc
   .exact n3 c hc c (fu c Ko) rfl
   .exact n5 c (b0K.2 (.inr (fu c Ko))) c hc rfl
  have h00:∀ c∈p0++p2,c∉p1:=λ c hc Ko=>by
   rw[b1e,b1e] at RT;rcases b0K.1 hc with hc|hc
   .exact RT.1.2.2 c hc c Ko rfl
   .exact RT.2.2 c (by simp[Ko]) c hc rfl
  have hy:=q3 w' u' y v' iB hp (λ c hc=>dis c (by simp at hc ⊢;rcases hc with hc|hc<;>simp[hc]) (h00 c hc)) rz;have fB:=m2 w' (τ.aK y) _ (p0++iB++p2) (λ c hc=>dis c (by simp at hc ⊢;rcases hc with hc|hc<;>simp[hc]) (h0 c hc)) (by simp only[List.length_set,List.length_take,List.length_drop];omega) hy;rw[VY l _ _ _ v' nY hlen,<-List.map_set] at fB;obtain⟨t',Kv⟩:=(hw b (by simp) λ hc=>hb (by simp[hc])).1 rfl;refine⟨b::(g0++(p0++iB++p2)++g2),⟨_,_,_,cap,rfl,by simp,by simpa using h3,h4,by simpa using h5, .inr ⟨b,_,t',rfl,rfl,Kv,by rw[List.length_set];exact k0,fB⟩⟩,?_,?_⟩
  .have Tm:∀ c∈iB,c∈p1\/(c∉p0/\c∉p2):=λ c hc=>(Z5 c hc).imp id λ q=>⟨λ q'=>q (by simp[q']),λ q'=>q (by simp[q'])⟩;have wa:∀ c∈p0++iB++p2,c∈p0++p1++p2\/(c∉g0/\c∉g2):=λ c hc=>by
    simp only[b0K] at hc;rcases hc with (hc|hc)|hc
    .exact .inl (by simp[hc])
    .rcases Z5 c hc with q|q
     .exact .inl (by simp[q])
     .exact .inr ⟨λ q'=>q (by simp[q']),λ q'=>q (by simp[q'])⟩
    .exact .inl (by simp[hc])
   rw[b1q];refine⟨λ hc=>?_,wV (f1:=p0++p1++p2) (dR (dR n1 n2 λ x hx uu=>n3 x hx x uu rfl) n4 λ x hx uu=>n5 x hx x uu rfl) (wV RT sS Tm) wa⟩;simp only[b0K] at hc;rcases hc with (hc|(hc|hc)|hc)|hc
   .exact hb (by simp[hc])
   .exact hb (by simp[hc])
   .rcases Z5 b hc with q|q
    .exact hb (by simp[q])
    .exact q (by simp)
   .exact hb (by simp[hc])
   .exact hb (by simp[hc])
  .intro c hc;simp only[b0X,b0K] at hc;rcases hc with hc|(hc|(hc|hc)|hc)|hc
   .exact .inl (by simp[hc])
   .exact .inl (by simp[hc])
   .exact .inl (by simp[hc])
   .exact .inr hc
   .exact .inl (by simp[hc])
   .exact .inl (by simp[hc])
end
section
variable {c:Ctx} {G:Gh} {s:aj} {a:Act} {w w':World}
theorem yZ(h:Inv c G s a w){o:Oper}{v:AV}{x:Value}{Q:Exit->Act->World->Prop}(hr:(execOp a.eval o).run c.P w = .ok (.value x) w)(hv:VR c G s.ai w v x) :
  o.wp c.P a w (λ a' w'=>∃ G',Inv c G' (s.put o.dst v) a' w') Q:=by
 unfold Oper.wp;rw[hr];exact⟨G,Inv.put h hv⟩
theorem tq{η:Value}{τ:Ty}{xs:List τ.den}{fp:List Nat}(hT:ij w η τ xs fp){a0:Option Addr}{n cap:Nat}{l:List Value}(eY:η = .tuple (.slice a0 n cap::l).toArray){i:Nat}(hi:i<n) :
  n=xs.length/\∃ b f t,a0=some ⟨b,0,none⟩/\fp=b::f/\w.heap[b]?=some (.cells l.toArray t (0,0))/\bN w (xs.map τ.aK) l f:=by
 obtain⟨v0,l0,a1,RC,h1,h2,h3,h4,h5,h6⟩:=hT;rw[eY] at h1;simp only[b2p] at h1;have h1:(Value.slice a0 n cap::l)=v0::l0:=congrArg Array.toList h1;simp only[b0O] at h1;obtain⟨hq,uq⟩:=h1;subst uq;rw[h2] at hq;simp only[b2z] at hq;obtain⟨rfl,rfl,rfl⟩:=hq;rcases h6 with ⟨rfl,_,_⟩|⟨b,f,t,q1,q2,q3,q4⟩
 .simp at hi
 .exact⟨rfl,b,f,t,q1,q2,q3,q4.2⟩
theorem JO{t:Ty}{x:Value}(h:C1 c G s.ai w (zeroCell t) x)(ht:t.agg=false):Ow w (t.aK t.zero) [x] []:=by
 cases t with
 | slice t' =>
  have h:x = .slice none 0 0:=h;subst h;exact⟨none,0,rfl,b1d _,by simp[maxLen],b1G _, .inl ⟨rfl,⟨rfl,rfl⟩,rfl⟩⟩
 | st s=>cases ht
 | mv t=>exact Ow.eK (S:=G.S) _ rfl h.2
 | ptr=>exact Ow.eK (S:=G.S) _ rfl h.2
 | int k=>exact Ow.eK (S:=G.S) _ rfl h.2
 | bool=>exact Ow.eK (S:=G.S) _ rfl h.2
 | str=>exact Ow.eK (S:=G.S) _ rfl h.2
theorem ZH(s:aL):∀ t∈s.nk,t.agg=false:=λ t ht=>by
 rw[<-aL.jd s s.zero] at ht;obtain⟨u,hu,rfl⟩:=b0P.1 ht;exact N2 s _ u hu
theorem a3t{c:Ctx}{G:Gh}{s:aj}{τ:Ty}{z:Value}(h:xb τ z=true):Ow w (τ.aK τ.zero) z.cells.toList []:=by
 have h1:=gM (c:=c) (G:=G) (lk:=s.ai) (w:=w) h;cases τ with
 | st st =>
  simp only[zeroCells] at h1;show Ow w (st.aK st.zero) _ [];rw[aL.bX];have hz:(st.cells st.zero).map TV.aK=st.nk.map λ t=>t.aK t.zero:=by cases st<;>rfl
  rw[hz];have h2:=aN.of_map _ h1;have:∀ (ts:List Ty) (vs:List Value),aN (λ t x=>Ow w (t.aK t.zero) [x] []) ts vs->cY w (ts.map λ t=>t.aK t.zero) vs []:=by
   intro ts;induction ts with
   | nil=>intro vs h;cases vs<;>first|exact⟨rfl,rfl⟩|cases h
   | cons t ts ih =>
    intro vs h;cases vs with
    | nil=>cases h
    | cons v vs=>exact⟨v,vs,[],[],rfl,rfl,h.1,ih vs h.2⟩
  exact this _ _ (h2.imp λ t x ht hx=>JO hx (ZH st t ht))
 | _ =>
  simp only[zeroCells] at h1;match hc:z.cells.toList,h1 with
  | [x],h1=>exact JO h1.1 rfl
theorem bN.Uu:∀ (ds:List D) {es:List D} {l m:List Value} {n:Nat},bN w ds l []->(∀ d∈ds,d.size=n)->l.length=ds.length * n->bN w es m []->bN w (ds++es) (l++m) []
 | [],es,l,m,n,_,_,hl,h=>by
  have:l=[]:=List.eq_nil_of_length_eq_zero (by simpa using hl);subst this;simpa using h
 | d::ds,es,l,m,n,h,hn,hl,h'=>by
  obtain⟨cc,r,f1,f2,rfl,hf,h3,h4⟩:=h;have hf:=(b4O.1 hf.symm);obtain⟨rfl,rfl⟩:=hf;have hc:cc.length=n:=by rw[Ow.length _ h3];exact hn d (by simp)
  refine⟨cc,r++m,[],[],by simp,rfl,h3,bN.Uu ds h4 (λ d hd=>hn d (by simp[hd])) ?_ h'⟩;simp only[b0Y,b0W,b1Q,Nat.one_mul] at hl;omega
theorem bN.more:∀ (ds:List D) {l:List Value} {fp:List Nat} (m:List Value),bN w ds l fp->bN w ds (l++m) fp
 | [],_,_,_,h=>h
 | d::ds,_,_,m,h=>by
  obtain⟨cc,r,f1,f2,rfl,hf,h3,h4⟩:=h;exact⟨cc,r++m,f1,f2,by simp,hf,h3,bN.more ds m h4⟩
theorem Fy{d:D}{z:Array Value}(h:Ow w d z.toList []):∀ k:Nat,bN w (List.replicate k d) (madeCells z (k * z.size)).toList []
 | 0=>rfl
 | k+1=>by
  have hz:d.size=z.size:=by have:=Ow.length _ h;simpa using this.symm
  rw[Be,b4U];refine bN.Uu (n:=z.size) _ (Fy h k) (λ e he=>by rw[b4A he];exact hz) (by simp[madeCells]) ⟨z.toList,[],[],[],by simp,rfl,h,rfl⟩
theorem Kg(h:Inv c G s a w)(id:Nat):Inv c G (s.gone id) a w:=by
 obtain⟨h1,_,_⟩:=h.clear id;have bW:(s.gone id).ai=λ i=>if i=id then none else (s.bU id).ai i:=by
  funext i;exact er id _ i
 unfold Inv;show bh c G (s.bU id).sl (s.bU id).aC.length (s.gone id).ai a w;rw[bW,show (s.bU id).aC.length=s.aC.length from by simp[aj.bU]];exact h1
theorem An(s:aj)(id i:Nat):(s.gone id).ai i=if i=id then none else (s.ai i).map (aB.kill id):=by
 show ai (bF id (s.bU id).aJ) i=_;rw[er,<-congrFun (dV s id) i];rfl
theorem uc:∀ (ids:List Nat) {s:aj},Inv c G s a w->Inv c G (ids.foldl aj.gone s) a w
 | [],_,h=>h
 | id::r,_,h=>uc r (Kg h id)
theorem Xs(id:Nat){τ:Ty}{xs:List τ.den}{o:Option aB}(h:o=some (.aE τ xs)):o.map (aB.kill id)=some (.aE τ xs):=by subst h;rfl
theorem LS:∀ (ids:List Nat) {s:aj} {id:Nat} {τ:Ty} {xs:List τ.den},s.ai id=some (.aE τ xs)->id∉ids->(ids.foldl aj.gone s).ai id=some (.aE τ xs)
 | [],_,_,_,_,h,_=>h
 | i::r,s,id,τ,xs,h,hn=>by
  refine LS r ?_ (λ hh=>hn (by simp[hh]));rw[An,b0N (λ e=>hn (by simp[e]))];exact Xs i h
theorem Gx:∀ (ids:List Nat) {s:aj} {i:Nat} {o:aB},(ids.foldl aj.gone s).ai i=some o->i∉ids/\∃ o',s.ai i=some o'/\∀ τ xs,o = .aE τ xs->o' = .aE τ xs
 | [],s,i,o,h=>⟨by simp,o,h,λ _ _ e=>e⟩
 | id::r,s,i,o,h=>by
  obtain⟨h1,o',h2,h3⟩:=Gx r h;rw[An] at h2;split at h2
  .cases h2
  .rename_i dD;simp only[b1s] at h2;obtain⟨p,hp,hk⟩:=h2;refine⟨by simp[dD,h1],p,hp,λ τ xs e=>?_⟩;have:=h3 τ xs e;subst this;have hm:(some p).map (aB.kill id)=some (.aE τ xs):=by rw[<-hk];rfl
   have:=iJ hm;simpa using this
theorem DB{o:Oper}{T:TypeId}{ad x:Operand}(bl:o.op = .store T ad x){w':World}{s':aj}{G':Gh}(hr:(Instr.storeAt T (a.eval ad) (a.eval x)).run c.P w = .ok () w')(hI:Inv c G' (s'.put none .any) a w'){Q:Exit->Act->World->Prop} :
  o.wp c.P a w (λ a' w'=>∃ G',Inv c G' (s'.put o.dst .any) a' w') Q:=by
 unfold Oper.wp;have:(execOp a.eval o).run c.P w = .ok .skip w':=by simp only[execOp,bl,Sem.run_bind,hr,Result.andThen_ok,Sem.run_pure]
 rw[this];exact⟨G',Inv.put (s:=s') hI trivial⟩
theorem Qs(hE:bp c.P c.E)(h:Inv c G s a w){T:TypeId}{τ aW:Ty}{bt e:Nat}(hT:ai c.E.ty T=some (τ,bt,e)){id i off:Nat}{xs:List aW.den}(aU:s.ai id=some (.aE aW xs)){p x:Value}(hp:VR c G s.ai w (.eB id i off aW.size) p)(nY:off+τ.size<=aW.size)
  (rE:x.cells.toList.length=τ.size) (uo:∀ u∈x.cells.toList,u.oneCell'=true) {y:aW.den}
  (hO:∀ (b:Nat) (f:List Nat) (l:List Value) (w':World),G.φ id=b::f->l.length>=i * aW.size+aW.size->bN w (xs.map aW.aK) l f->(∀ k,k≠b->w'.heap[k]?=w.heap[k]?) ->
   ∃ f',bN w' ((xs.set i y).map aW.aK) (l.take (i * aW.size+off)++x.cells.toList++l.drop (i * aW.size+off+τ.size)) f'/\f'.Nodup/\b∉f'/\∀ k∈f',k∈f\/sM c G s.ai w k) :
  ∃ w' G',(Instr.storeAt T p x).run c.P w = .ok () w'/\Inv c G' (s.cm.fQ id aW (xs.set i y)) a w':=by
 obtain⟨_,b,n,cap,l,eY,hi,rfl⟩:=hp;obtain⟨rfl,b',f,t,e1,lZ,hh,fB⟩:=tq (h.aR.tr id aW xs aU) eY hi;simp only[b0J,b2E,b1i] at e1;subst e1;have cj:∀ d∈xs.map aW.aK,d.size=aW.size:=by
  intro d hd;obtain⟨z,_,rfl⟩:=b0P.1 hd;exact Ty.cz aW z
 obtain⟨_,_,_,_,hlen,_,_⟩:=bN.split (xs.map aW.aK) i (aW.aK (xs.getD i aW.zero)) fB cj (by simp[List.getD,hi]);have cE:=Ay (c:=c) (l:=l) hE hT (o:=i * aW.size+off) (x:=x) hh rE uo (by omega);have yy:∀ k,k≠b->(w.setRow b (l.take (i * aW.size+off)++x.cells.toList++l.drop (i * aW.size+off+τ.size)).toArray).heap[k]?=w.heap[k]?:=λ k hk=>lh w hh k hk;obtain⟨f',k1,k2,k3,k4⟩:=hO b f l _ lZ hlen fB yy;have oQ:=b5p w b l.toArray (l.take (i * aW.size+off)++x.cells.toList++l.drop (i * aW.size+off+τ.size)).toArray t (0,0) hh;have UZ:ij (w.setRow b (l.take (i * aW.size+off)++x.cells.toList++l.drop (i * aW.size+off+τ.size)).toArray) (.tuple (.slice (some ⟨b,0,none⟩) xs.length cap::(l.take (i * aW.size+off)++x.cells.toList++l.drop (i * aW.size+off+τ.size))).toArray) aW (xs.set i y) (b::f'):=by
  obtain⟨v0,l0,a1,RC,h1,h2,h3,h4,h5,h6⟩:=h.aR.tr id aW xs aU;rw[eY] at h1;simp only[b2p] at h1;have h1:(Value.slice (some ⟨b,0,none⟩) xs.length cap::l)=v0::l0:=congrArg Array.toList h1;simp only[b0O] at h1;obtain⟨hq,uq⟩:=h1;rw[h2] at hq;simp only[b2z] at hq;obtain⟨rfl,_,rfl⟩:=hq;have CI:l.length=cap * aW.size:=by
   rw[uq];rcases h6 with ⟨_,h',_⟩|⟨_,_,_,_,_,_,k0,_⟩
   .cases h'.1
   .exact k0
  exact⟨_,_,_,cap,rfl,by simp,by simpa using h3,h4,by simpa using h5, .inr ⟨b,f',t,rfl,rfl,oQ,by rw[<-CI];simp only[List.length_append,List.length_take,List.length_drop,rE];omega,k1⟩⟩
 have O7:=h.aR.pl id aW xs;have:=h.Zq (w':=w.setRow b (l.take (i * aW.size+off)++x.cells.toList++l.drop (i * aW.size+off+τ.size)).toArray) (t:=s.cm.fQ id aW (xs.set i y)) (F:=λ k=>k=b)
  (A:=[(id,(.tuple (.slice (some ⟨b,0,none⟩) xs.length cap::(l.take (i * aW.size+off)++x.cells.toList++l.drop (i * aW.size+off+τ.size))).toArray,b::f', .aE aW (xs.set i y)))]) ?_ ?_ ?_ (by simp)
  ⟨rfl,rfl,rfl,by simp[World.setRow],λ k hk dD=>yy k dD⟩ (λ k hk=>⟨_,b0Z.2 rfl,by rw[lZ,hk];simp⟩) rfl (λ j=>?_) (d:=none) (v := .any) (x:=undef) (λ _ _=>trivial)
 .obtain⟨G',hG⟩:=this;exact⟨_,G',cE,hG⟩
 .intro p hp;simp only[b0Z] at hp;subst hp;exact⟨aW,xs,_,_,l,_,aU,rfl,eY,rfl,UZ,b1q.2 ⟨k3,k2⟩⟩
 .intro p hp k hk;simp only[b0Z] at hp;subst hp;rcases b0X.1 hk with rfl|hk
  .exact .inl ⟨_,b0Z.2 rfl,by rw[lZ];simp⟩
  .rcases k4 k hk with hk|hk
   .exact .inl ⟨_,b0Z.2 rfl,by rw[lZ];simp[hk]⟩
   .exact .inr (hk.grow (by simp[World.setRow]))
 .intro p hp q hq k _ _;simp only[b0Z] at hp hq;rw[hp,hq]
 .rw[Qy,jE]
theorem xd.cells{w:World}{τ:Ty}{y:τ.den}{x:Value}{fp:List Nat}(h:xd w ⟨τ,y⟩ x fp):Ow w (τ.aK y) x.cells.toList fp:=by
 cases τ with
 | st s =>
  obtain⟨cs,rfl,h⟩:=h;exact h
 | slice t =>
  obtain⟨a',cap,h1,_⟩:=id h;simp only[b0O,b1i] at h1;subst h1;exact h
 | mv t =>
  have h1:=Ow.length _ (show Ow w (mvD t.size t.aK y) [x] fp from h);cases hy:(show Option (List t.den) from y) with
  | none =>
   have e:y=(none:Option (List t.den)):=hy;subst e;obtain⟨⟨a',n,m,h1⟩,_⟩:=id h;simp only[b0O,b1i] at h1;subst h1;exact h
  | some l =>
   have e:y=(some l:Option (List t.den)):=hy;subst e;obtain⟨a',cap,h1,_⟩:=id h;simp only[b0O,b1i] at h1;subst h1;exact h
 | ptr=>obtain⟨⟨p,h1⟩,_⟩:=id h;simp only[b0O,b1i] at h1;subst h1;exact h
 | int k=>obtain⟨⟨h1,_⟩,_⟩:=id h;simp only[b0O,b1i] at h1;subst h1;exact h
 | bool=>have h1:=h.1;simp only[b0O,b1i] at h1;subst h1;exact h
 | str=>obtain⟨⟨z,h1,_⟩,_⟩:=id h;simp only[b0O,b1i] at h1;subst h1;exact h
theorem Qj(l:List Value)(k:Nat)(v:Value)(h:k<l.length):l.take k++[v]++l.drop (k+1)=l.set k v:=by
 rw[List.set_eq_take_append_cons_drop,b0T h,b1o];rfl
theorem Iu(h:Inv c G s a w){ids:List Nat}{b:Nat}(hb:tB G s.ai ids b):sM c G (ids.foldl aj.gone s).ai w b:=by
 obtain⟨id,hi,hq⟩:=hb;have hp:(c.w0.heap.size<=b\/c.X b)/\¬ G.S b/\b<w.heap.size:=by
  rcases hq with ⟨τ,xs,q1,q2⟩|⟨e,τ,xs,q1,q2⟩
  .obtain⟨p1,p2,p3,_⟩:=h.aR.pl id τ xs b q1 q2;exact⟨p1,p2,p3⟩
  .obtain⟨p1,p2,p3⟩:=h.place id _ b q1 q2;exact⟨p1,p2,p3⟩
 refine⟨hp.1,hp.2.1,hp.2.2,λ i o cr rA=>?_,λ j τ xs hj lX=>?_⟩
 .obtain⟨h1,o',h2,_⟩:=Gx ids cr;rcases hq with ⟨τ,xs,q1,q2⟩|⟨e,τ,xs,q1,q2⟩
  .exact (h.aR.pl id τ xs b q1 q2).2.2.2 i o' h2 rA
  .have:=h.apart i id o' _ b h2 q1 rA q2;subst this;exact h1 hi
 .obtain⟨h1,o',h2,h3⟩:=Gx ids hj;have:=h3 τ xs rfl;subst this;rcases hq with ⟨aW,cK,q1,q2⟩|⟨e,aW,cK,q1,q2⟩
  .have:=h.aR.ap j id _ _ _ _ b h2 q1 lX q2;subst this;exact h1 hi
  .exact (h.aR.pl j τ xs b h2 lX).2.2.2 id _ q1 q2
theorem a3x{l:List Operand}{u v:AV}(h:Inv c G s a w)(hl:l.map s.eval=[u,v]):∃ x y,l.map a.eval=[x,y]/\VR c G s.ai w u x/\VR c G s.ai w v y:=by
 have:=aN.jl (aY h) l;rw[hl] at this;match hx:l.map a.eval,this with
 | [x,y],hh=>exact⟨x,y,rfl,hh.1,hh.2.1⟩
theorem Cs{lk:Nat->Option aB}{id i sz:Nat}(hit:cS (lk id)=true){a0:Option Addr}{n cap:Nat}{l:List Value}(eY:G.η id = .tuple (.slice a0 n cap::l).toArray)(fu:i<n):∀ (us:List TV) (j:Nat) (cs:List Value) (fp:List Nat),(∀ u∈us,WQ u.τ=true) ->
  cY w (us.map TV.aK) cs fp->(∀ k x,cs[k]?=some x->l[i * sz+(j+k)]?=some x)->aN (C1 c G lk w) (Kc id i sz j us) cs
 | [],j,cs,fp,_,h,_=>by
  obtain⟨rfl,_⟩:=h;trivial
 | ⟨τ,y⟩::us,j,cs,fp,hok,h,hl=>by
  obtain⟨v,r,f1,f2,rfl,rfl,h3,h4⟩:=h;have ih:=Cs hit eY fu us (j+1) r f2 (λ u hu=>hok u (List.mem_cons_of_mem _ hu)) h4 (λ k x hk=>by have:=hl (k+1) x (by simpa using hk);rwa [show j+(k+1)=j+1+k by omega] at this);have ho:WQ τ=true:=hok ⟨τ,y⟩ (by simp);have hv:=hl 0 v rfl;refine⟨?_,ih⟩;cases τ with
  | slice t =>
   refine⟨hit,_,_,_,_,eY,fu,hv,?_⟩;obtain⟨a',Om,q,_⟩:=h3;simp only[b0O,b1i] at q;exact⟨_,_,_,q⟩
  | mv t=>cases ho
  | st s=>cases ho
  | int k=>exact⟨rfl,h3.1⟩
  | bool=>exact⟨rfl,h3.1⟩
  | str=>exact⟨rfl,h3.1⟩
  | ptr=>exact⟨rfl,h3.1⟩
theorem XF(hE:bp c.P c.E)(h:Inv c G s a w){o:Oper}{vc:Vc}{s':aj}(hq:TQ c.E s o=some (vc,s'))(dY:vc.ok){Q:Exit->Act->World->Prop} :
  o.wp c.P a w (λ a' w'=>∃ G',Inv c G' s' a' w') Q:=by
 unfold TQ at hq;split at hq;case h_1 T x ix bl =>
  split at hq;case h_2=>cases hq
  case h_1 τ r hT =>
  split at hq;case h_2=>cases hq
  case h_1 k i id hi hx =>
  split at hq;case h_2=>cases hq
  case h_1 aW xs aU =>
  split at hq;case h_2=>cases hq
  case h_1 eF =>
  have cj:aW.size=τ.size:=by
   simp only[b2m] at eF;rcases eF with eF|eF
   .rw[b1n eF]
   .unfold Ty.a5s at eF;split at eF
    .rename_i p q;have e:=congrArg List.length (b1n eF);rw[b1F] at e;have e1:=congrArg List.length (aL.jd p p.zero);have e2:=congrArg List.length (aL.jd q q.zero);rw[b1F,aL.fV] at e1 e2;simp only[Ty.size];omega
    .cases eF
  simp only[b0J,b0M] at hq;obtain⟨rfl,rfl⟩:=hq;have gJ:=aY h ix;rw[hi] at gJ;obtain⟨gJ,_⟩:=gJ;simp only[b0O,b1i] at gJ;have hv:=aY h x;rw[hx] at hv;obtain⟨hit,l,eY,ad,m,cap,xx⟩:=hv;obtain⟨h0,h1⟩:=dY;have hTr:=h.aR.tr id aW xs aU;rw[xx] at eY;have hm:m=xs.length:=by
   obtain⟨v0,l0,a1,RC,q1,q2,_⟩:=hTr;rw[eY] at q1;simp only[b2p] at q1;have q1:(Value.slice ad m cap::l)=v0::l0:=congrArg Array.toList q1;simp only[b0O] at q1;rw[q2] at q1;simp only[b2z] at q1;exact q1.1.2.1
  subst hm;obtain⟨_,b,f,t,e1,_⟩:=tq hTr eY (i:=i.toNat) (by omega);subst e1;refine yZ h (x := .pointer (some ⟨b,0+i.toNat * τ.size,none⟩)) ?_ ⟨hit,b,_,cap,l,eY,by omega,by simp⟩;simp only[execOp,bl,xx,gJ,b1j,oz hE hT h0 h1,b1c,b1k]
 case h_2 T x i bl =>
  split at hq;case h_2=>cases hq
  case h_1 st r hT =>
  split at hq;case h_2=>cases hq
  case h_1 id k off sz hx =>
  split at hq;case h_2=>cases hq
  case h_1 bz =>
  simp only[Option.some.injEq,Prod.mk.injEq] at hq;obtain⟨rfl,rfl⟩:=hq;simp only[Bool.and_eq_true,Bool.not_eq_true'] at bz;have ha:=bz.1;have bz:i<st.dv.length:=by simpa [Nat.blt_eq] using bz.2
  have hv:=aY h x;rw[hx] at hv;obtain⟨h1,b,m,cap,l,h2,h3,h4⟩:=hv;refine yZ h (x := .pointer (some ⟨b,k * sz+(off+st.dN i),none⟩)) ?_ ⟨h1,b,m,cap,l,h2,h3,rfl⟩;simp only[execOp,bl,h4,b1j,Ax hE hT ha bz,b1c,b1k,b3B]
 case h_3 T ad bl =>
  split at hq;case h_2=>cases hq
  case h_1 τ r hT =>
  split at hq;case h_2=>cases hq
  case h_1 id i off sz hx =>
  split at hq;case h_2=>cases hq
  case h_1 aW xs aU =>
  split at hq;case h_2 =>
   unfold Vt at hq;split at hq;case h_2=>cases hq
   case h_1 q iF =>
   clear iF;split at hq;case h_2=>cases hq
   case h_1 y hb hy =>
   simp only[b0J,b0M] at hq;obtain⟨rfl,rfl⟩:=hq;have Z4:aW = .st q/\HEq (xs.getD i aW.zero) y:=by
    have e:=TV.aT hy;simp only[TV.mk.injEq] at e;exact e
   obtain⟨rfl,e2⟩:=Z4;have e2:=b3G e2;simp only[b0U] at hb;obtain⟨ui,GU,OX⟩:=hb;have ui:=b0L ui;have GU:=b0L GU;subst ui GU;have hv:=aY h ad;rw[hx] at hv;obtain⟨h1,b,m,cap,l,h2,h3,h4⟩:=hv;have UZ:=h.aR.tr id _ xs aU;obtain⟨hn,b',f,t,e1,Ph,hh,fB⟩:=tq UZ h2 h3;simp only[b0J,b2E,b1i] at e1;subst e1;have EO:i<xs.length:=by omega
   have CI:l.length=cap * q.size/\xs.length<=cap:=by
    obtain⟨v0,l0,a1,RC,k1,k2,k3,k4,k5,k6⟩:=UZ;rw[h2] at k1;simp only[b2p] at k1;have k1:(Value.slice (some ⟨b,0,none⟩) m cap::l)=v0::l0:=congrArg Array.toList k1;simp only[b0O] at k1;obtain⟨k7,rfl⟩:=k1;rw[k2] at k7;simp only[b2z] at k7;obtain⟨_,_,rfl⟩:=k7;rcases k6 with ⟨rfl,_,_⟩|⟨_,_,_,_,_,_,k8,_⟩
    .simp at EO
    .exact⟨k8,k3⟩
   have cj:∀ d∈xs.map (Ty.aK (.st q)),d.size=q.size:=λ d hd=>by
    obtain⟨z,_,rfl⟩:=b0P.1 hd;exact Ty.cz (.st q) z
   obtain⟨f0,f1,f2,hf,m0,m1,m2⟩:=bN.split (xs.map (Ty.aK (.st q))) i (Ty.aK (.st q) (xs.getD i (Ty.zero (.st q)))) fB cj (by simp[List.getD,EO]);have sC:((l.drop (i * q.size)).take q.size).length=q.size:=by
    rw[b1T,b1Z,CI.1];have:i * q.size+q.size<=cap * q.size:=by rw[<-Nat.succ_mul];exact b2u _ (by omega)
    omega
   have m1:cY w ((q.cells y).map TV.aK) ((l.drop (i * q.size)).take q.size) f1:=by
    have:=m1;rw[show Ty.aK (.st q) (xs.getD i (Ty.zero (.st q)))=q.aK (xs.getD i (Ty.zero (.st q))) from rfl,aL.bX] at this;rw[<-e2];exact this
   have LX:∀ k x,((l.drop (i * q.size)).take q.size)[k]?=some x->l[i * q.size+k]?=some x:=λ k x hk=>by
    rw[b2e] at hk;split at hk
    .rwa [b2W] at hk
    .cases hk
   have lY:bo w b (i * q.size+0) ((l.drop (i * q.size)).take q.size):=λ j z hj=>by
    simp[World.cell?,hh,LX j z hj]
   refine yZ h (x := .agg ((l.drop (i * q.size)).take q.size).toArray) ?_ ⟨_,rfl,Cs h1 h2 h3 (q.cells y) 0 _ f1 (λ u hu=>?_) m1 (λ k x hk=>by rw[b2l];exact LX k x hk)⟩
   .simp only[execOp,bl,h4,b1j,gY hE hT lY sC,b1c,b1k];rfl
   .have:u.τ∈q.nk:=by rw[<-aL.jd q y];exact b0P.2 ⟨u,hu,rfl⟩
    exact b1u.1 OX _ this
  case h_1 u hu hb =>
  simp only[Bool.and_eq_true,Bool.not_eq_true'] at hb;obtain⟨ui,GU,OX⟩:=hb;have ui:=Nat.eq_of_beq_eq_true ui;subst ui;have OX:off<aW.size:=by simpa [Nat.blt_eq] using OX
  have hv:=aY h ad;rw[hx] at hv;obtain⟨h1,b,m,cap,l,h2,h3,h4⟩:=hv;obtain⟨rfl,v,f1,p1,p2,_⟩:=X6 (h.aR.tr id aW xs aU) (h.aR.nd id aW xs aU) h2 h3 hu GU OX;obtain⟨_,b',f,t,e1,_,hh,_⟩:=tq (h.aR.tr id aW xs aU) h2 h3;simp only[b0J,b2E,b1i] at e1;subst e1;have lY:bo w b (i * aW.size+off) [v]:=λ j z hj=>by
   cases j with
   | zero =>
    simp at hj;subst hj;simp[World.cell?,hh,p1]
   | succ j=>simp at hj
  have Xj:τ.size=1:=Ty.e9 GU;have cE:(execOp a.eval o).run c.P w = .ok (.value (yO τ [v])) w:=by
   simp only[execOp,bl,h4,b1j,gY hE hT lY (by rw[Xj];rfl),b1c,b1k]
  have hmk:yO τ [v]=v:=by cases τ<;>first|rfl|cases GU
  rw[hmk] at cE;have hut:u.τ=τ:=by
   unfold TV.part at hu;split at hu
   .rename_i gT;simp only[b0U] at gT;simp only[b0J] at hu;rw[<-hu];exact b1n gT.2
   .split at hu
    .split at hu
     .rename_i hd;simp only[b0J] at hu;rw[<-hu];exact b1n hd
     .cases hu
    .cases hu
  split at hq;case h_1 yA =>
   simp only[b0J,b0M] at hq;obtain⟨rfl,rfl⟩:=hq;refine yZ h cE ?_;obtain⟨Wk,yu⟩:=u;have hut:Wk=τ:=hut;subst hut;have hl:(Ty.aK Wk yu).light=true:=qB yA yu;have hr:Rd w G.S (Ty.aK Wk yu) [v]:=by
    cases Wk with
    | int k=>exact p2.1
    | bool=>exact p2.1
    | str=>exact p2.1
    | slice t=>cases yA
    | mv t=>cases yA
    | ptr=>exact p2.1
    | st s=>cases yA
   cases Wk with
   | mv t=>cases yA
   | st s=>cases yA
   | slice t=>cases yA
   | _=>exact hr
  case h_2 yA =>
   simp only[b0J,b0M] at hq;obtain⟨rfl,rfl⟩:=hq;refine yZ h cE ⟨h1,_,_,cap,l,h2,h3,p1,?_⟩;obtain⟨Wk,yu⟩:=u;have hut:Wk=τ:=hut;subst hut;cases Wk with
   | slice t =>
    obtain⟨a',Om,q,_⟩:=p2;simp only[b0O,b1i] at q;exact⟨_,_,_,q⟩
   | st s=>cases GU
   | mv t =>
    cases hy:(show Option (List t.den) from yu) with
    | none =>
     have e:yu=(none:Option (List t.den)):=hy;subst e;obtain⟨⟨a',n,m,q⟩,_⟩:=p2;simp only[b0O,b1i] at q;exact⟨_,_,_,q⟩
    | some l =>
     have e:yu=(some l:Option (List t.den)):=hy;subst e;obtain⟨a',Om,q,_⟩:=p2;simp only[b0O,b1i] at q;exact⟨_,_,_,q⟩
   | int k=>cases yA
   | bool=>cases yA
   | str=>cases yA
   | ptr=>cases yA
 case h_4 T ad x bl =>
  split at hq;case h_2=>cases hq
  case h_1 τ r hT =>
  split at hq;case h_2=>cases hq
  case h_1 id i off sz hx =>
  split at hq;case h_2=>cases hq
  case h_1 aW xs aU =>
  split at hq;case h_2=>cases hq
  case h_1 hb =>
  simp only[Bool.and_eq_true] at hb;obtain⟨ui,OX⟩:=hb;have ui:=Nat.eq_of_beq_eq_true ui;subst ui;have OX:off<aW.size:=by simpa [Nat.blt_eq] using OX
  have hp:=aY h ad;rw[hx] at hp;have Tw:=aY h x;have fu:i<xs.length:=by
   obtain⟨_,b,m,cap,l,h2,h3,_⟩:=hp;obtain⟨h4,_⟩:=tq (h.aR.tr id aW xs aU) h2 h3;omega
  split at hq;case h_1 yA =>
   split at hq;case h_2=>cases hq
   case h_1 u j hu =>
   split at hq;case h_2=>cases hq
   case h_1 u0 y hu0 hy =>
   simp only[b0J,b0M] at hq;obtain⟨rfl,rfl⟩:=hq;have AS:τ.agg=false:=by cases τ<;>first|rfl|cases yA
   have Xj:τ.size=1:=Ty.e9 AS;have lY:(a.eval x).cells.toList=[a.eval x]/\(a.eval x).oneCell'=true/\Ow w (τ.aK u) [a.eval x] []:=by
    have hc:C1 c G s.ai w (s.eval x) (a.eval x)/\(s.eval x).cell=true:=by
     have hcc:(s.eval x).cell=true:=by
      revert hu;cases cG:s.eval x with
      | aO v =>
       intro hu;simp only[eO] at hu;split at hu
       .rename_i Pf;have e:=TV.aT Pf;subst e;cases τ<;>first|rfl|cases AS
       .cases hu
      | nil=>intro hu;cases τ<;>first|(cases yA;done)|(cases hu;done)
      | aE id=>intro hu;simp[eO] at hu
      | row id=>intro hu;simp[eO] at hu
      | _=>intro hu;cases hu
     exact⟨Tw.Se hcc,hcc⟩
    obtain⟨q1,q2⟩:=hc.1.leaf hc.2;refine⟨by rw[q2],q1,?_⟩;revert hu;have Kp:=hc.1;revert Kp;cases s.eval x with
    | aO v =>
     intro Kp hu;simp only[eO] at hu;split at hu
     .rename_i a8X Pf;have e:=TV.aT Pf;subst e;simp only[b0J,b0M] at hu;rw[<-hu.1];exact Ow.eK (S:=G.S) _ (qB a8X _) Kp.2
     .cases hu
    | nil=>intro _ hu;cases τ<;>first|(cases yA;done)|(cases hu;done)
    | aE id=>intro _ hu;simp[eO] at hu
    | row id=>intro _ hu;simp[eO] at hu
    | _=>intro _ hu;cases hu
   obtain⟨c1,c2,c3⟩:=lY;obtain⟨w',G',k1,k2⟩:=Qs hE h hT aU hp (y:=y) (x:=a.eval x) (by omega) (by rw[c1,Xj];rfl) (by rw[c1];simpa using c2) (λ b f l w' Ph hlen fB yy=>by
    have cj:∀ d∈xs.map aW.aK,d.size=aW.size:=by
     intro d hd;obtain⟨z,_,rfl⟩:=b0P.1 hd;exact Ty.cz aW z
    have dh:=h.aR.nd id aW xs aU;rw[Ph,b1q] at dh;obtain⟨QR,O5⟩:=dh;have hJ:∀ k∈f,w'.heap[k]?=w.heap[k]?:=λ k hk=>yy k λ e=>QR (e ▸ hk);obtain⟨g0,g1,g2,rfl,_,m1,m2⟩:=bN.split (xs.map aW.aK) i (aW.aK (xs.getD i aW.zero)) fB cj (by simp[List.getD,fu]);obtain⟨v,p0,p1,p2,rfl,q1,q2,q3⟩:=Md hu0 AS m1;have hy2:=q3 w' ⟨τ,u⟩ y (a.eval x) [] hy (λ k hk=>hJ k (by simp at hk ⊢;rcases hk with hk|hk<;>simp[hk])) (c3.aM _ (by simp));have hr:=m2 w' (aW.aK y) _ (p0++[]++p2) (λ k hk=>hJ k (by simp at hk ⊢;rcases hk with hk|hk<;>simp[hk])) (by simp only[b1P,b1T,b1Z];omega) hy2;rw[VY l _ _ _ _ OX hlen,<-b4z] at hr;refine⟨_,by rw[c1,Xj,Qj _ _ _ (by omega)];exact hr,?_,λ hk=>QR ?_,λ k hk => .inl ?_⟩
    .refine wV (f1:=p0++p1++p2) O5 (wV (f1:=p1) ?_ b1V (by simp)) (λ k hk => .inl (by simp at hk ⊢;rcases hk with hk|hk<;>simp[hk]));rw[b1e,b1e] at O5;exact O5.1.2.1
    .simp at hk ⊢;rcases hk with hk|hk|hk|hk<;>simp[hk]
    .simp at hk ⊢;rcases hk with hk|hk|hk|hk<;>simp[hk])
   exact DB bl k1 k2
  case h_2 yA =>
   split at hq;case h_2=>cases hq
   case h_1 y ids nY ht =>
   split at hq;case h_2=>cases hq
   case h_1 y' dh Pf =>
   simp only[b0J,b0M] at hq;obtain⟨rfl,rfl⟩:=hq;have nY:=b0L nY;subst nY;have e:=TV.aT Pf;have et:τ=aW:=congrArg TV.τ e;subst et;cases e;have dh:=de dh;rw[b1q] at dh;obtain⟨a5h,a3P⟩:=dh;obtain⟨fq,o1,o2,o3⟩:=qE h ht Tw a3P;have iP:=xd.cells o1;have hlen:=Ow.length _ iP;rw[Ty.cz] at hlen;have h1:=uc ids h;have RR:=LS ids aU a5h;obtain⟨_,b0,m0,a7S,l0,a9d,QV,hp0⟩:=hp;obtain⟨w',G',k1,k2⟩:=Qs hE h1 hT RR (i:=i) (off:=0) (p:=a.eval ad) ⟨by rw[RR];rfl,b0,m0,a7S,l0,a9d,QV,hp0⟩ (y:=y) (x:=a.eval x) (by omega) hlen
    (Rd.jF (S:=λ b=>b∈fq) (x:=y) (Ow.rd _ iP λ b hb=>hb)) (λ b f l w' Ph a9N fB yy=>by
    have cj:∀ d∈xs.map τ.aK,d.size=τ.size:=by
     intro d hd;obtain⟨z,_,rfl⟩:=b0P.1 hd;exact Ty.cz τ z
    have YJ:=h.aR.nd id τ xs aU;rw[Ph,b1q] at YJ;obtain⟨QR,O5⟩:=YJ;have hJ:∀ k∈f,w'.heap[k]?=w.heap[k]?:=λ k hk=>yy k λ e=>QR (e ▸ hk);have vZ:∀ k∈fq,k∉b::f:=λ k hk eX=>by
     refine h.hU (o3 k hk) (j:=[id]) ⟨id,by simp, .inl ⟨τ,xs,aU,by rw[Ph];exact eX⟩⟩ λ x1 Pe y1 Q0 e=>?_;simp only[b0Z] at Q0;exact a5h (by rw[<-Q0,<-e];exact Pe)
    obtain⟨g0,g1,g2,rfl,_,m1,m2⟩:=bN.split (xs.map τ.aK) i (τ.aK (xs.getD i τ.zero)) fB cj (by simp[List.getD,fu]);have hr:=m2 w' (τ.aK y) (a.eval x).cells.toList fq (λ k hk=>hJ k (by simp at hk ⊢;rcases hk with hk|hk<;>simp[hk])) hlen (iP.aM _ λ k hk=>yy k λ e=>vZ k hk (by simp[e]));rw[<-b4z] at hr;refine⟨g0++fq++g2,by rw[b2L];exact hr,?_,λ hk=>?_,λ k hk=>?_⟩
    .rw[b1e,b1e] at O5;obtain⟨⟨n1,n2,n3⟩,n4,n5⟩:=O5;refine dR (dR n1 o2 λ k hk eX=>vZ k eX (by simp[hk])) n4 λ k hk eX=>?_;rcases b0K.1 hk with hk|hk
     .exact n5 k (b0K.2 (.inl hk)) k eX rfl
     .exact vZ k hk (by simp[eX])
    .rcases b0K.1 hk with hk|hk
     .rcases b0K.1 hk with hk|hk
      .exact QR (by simp[hk])
      .exact vZ b hk (by simp)
     .exact QR (by simp[hk])
    .rcases b0K.1 hk with hk|hk
     .rcases b0K.1 hk with hk|hk
      .exact .inl (by simp[hk])
      .exact .inr (Iu h (o3 k hk))
     .exact .inl (by simp[hk]))
   exact DB bl k1 k2
 case h_5 T l cc bl =>
  split at hq;case h_2=>cases hq
  case h_1 d τ b e hd hT =>
  split at hq;case h_2=>cases hq
  case h_1 dM =>
  have a8J:d<50\/100<=d:=by
   simp only[b0U,b2m] at dM;rcases dM.2 with q|q
   .exact .inl (by simpa [Nat.blt_eq] using q)
   .exact .inr (b1N q)
  split at hq;case h_2=>cases hq
  case h_1 n m hn hm =>
  simp only[b0J,b0M] at hq;obtain⟨rfl,rfl⟩:=hq;have hl:=aY h l;have hc:=aY h cc;rw[hn] at hl;rw[hm] at hc;obtain⟨hl,_⟩:=hl;obtain⟨hc,_⟩:=hc;simp only[b0O,b1i] at hl hc;obtain⟨v1,v2,v3,v4⟩:=L8 dY;obtain⟨h1,_,i,z,h3,h4,h5,h6,h7⟩:=hE.slice hT;have hzo:=a3t (c:=c) (G:=G) (s:=s) (w:=w.alloc (.cells (madeCells z.cells (m.toNat * i.size)) e)) h7;have hzl:=Ow.length _ hzo;rw[Ty.cz,b1K] at hzl;have hr:=run_make (P:=c.P) w T e i z h1 h3 h6 .i64 .i64 n m v1 v2 (by rw[h5];omega) (by omega);have hI:=bh.alloc (Kg h d) (.cells (madeCells z.cells (m.toNat * i.size)) e);have py:(s.gone d).ai d=none:=by rw[An,b0T rfl]
  obtain⟨r1,r2⟩:=hI.PV py;have fB:bN (w.alloc (.cells (madeCells z.cells (m.toNat * i.size)) e)) ((List.replicate n.toNat τ.zero).map τ.aK) (madeCells z.cells (m.toNat * i.size)).toList []:=by
   rw[b5i];have hle:n.toNat * z.cells.size<=m.toNat * i.size:=by rw[h4,hzl];exact b2u _ (by omega)
   have:=bN.more _ ((madeCells z.cells (m.toNat * i.size)).toList.drop (n.toNat * z.cells.size)) (Fy hzo n.toNat);rwa [<-Bf _ _ _ hle,b2q] at this
  have UZ:ij (w.alloc (.cells (madeCells z.cells (m.toNat * i.size)) e)) (.tuple (.slice (some ⟨w.heap.size,0,none⟩) n.toNat m.toNat::(madeCells z.cells (m.toNat * i.size)).toList).toArray) τ (List.replicate n.toNat τ.zero) [w.heap.size] :=
   ⟨_,_,some ⟨w.heap.size,0,none⟩,m.toNat,rfl,by simp,by simp;omega,by simp only[maxLen];omega,by simp;omega, .inr ⟨w.heap.size,[],e,rfl,rfl,by simpa using heap_alloc_new w (.cells (madeCells z.cells (m.toNat * i.size)) e),by simp[madeCells,h4],fB⟩⟩
  have hN:=hI.PS d τ (List.replicate n.toNat τ.zero) _ [w.heap.size] py r1 r2 (by
   cases hr:c.R d with
   | none=>rfl
   | some v =>
    have h1:=h.fP d v hr;rcases a8J with q|q
    .exact absurd h1.1 (Nat.not_le.2 q)
    .exact absurd h1.2 (Nat.not_lt.2 q)) UZ (by simp) (λ k hk=>by
   simp only[b0Z] at hk;subst hk;have hg:=Kg h d;refine⟨.inl h.aM.size,λ hs=>b3k _ (h.dE _ hs),by simp,λ i o cr rA=>?_,λ j jr lK hj lX=>?_⟩
   .exact b3k _ (hg.place i o _ cr rA).2.2
   .exact b3k _ (hg.aR.pl j jr lK _ hj lX).2.2.1)
  unfold Oper.wp;have cE:(execOp a.eval o).run c.P w = .ok (.value (.slice (some ⟨w.heap.size,0,none⟩) n.toNat m.toNat)) (w.alloc (.cells (madeCells z.cells (m.toNat * i.size)) e)):=by
   simp only[execOp,bl,hl,hc,b1j,hr,b1c,b1k]
  rw[cE];have key:=bh.put (d:=some d) (v := .aE d) (x := .slice (some ⟨w.heap.size,0,none⟩) n.toNat m.toNat) hN ⟨by simp[cS],_,by simp;rfl,_,_,_,rfl⟩;have bW:aj.ai { aC:=(s.gone d).aC.set d (.aE d),aJ:=(d, .aE τ (List.replicate n.toNat τ.zero))::(s.gone d).aJ }=λ i=>if i=d then some (.aE τ (List.replicate n.toNat τ.zero)) else (s.gone d).ai i:=by
   funext i;exact dx _ _ _ _
  have conv:∀ G',bh c G' (iY (s.gone d).aC.length (s.gone d).sl (some d) (.aE d)) (s.gone d).aC.length (λ i=>if i=d then some (.aE τ (List.replicate n.toNat τ.zero)) else (s.gone d).ai i) (a.put (some d) (.slice (some ⟨w.heap.size,0,none⟩) n.toNat m.toNat)) (w.alloc (.cells (madeCells z.cells (m.toNat * i.size)) e))->Inv c G' { aC:=(s.gone d).aC.set d (.aE d),aJ:=(d, .aE τ (List.replicate n.toNat τ.zero))::(s.gone d).aJ } (a.put o.dst (.slice (some ⟨w.heap.size,0,none⟩) n.toNat m.toNat)) (w.alloc (.cells (madeCells z.cells (m.toNat * i.size)) e)):=by
   intro G' hh;unfold Inv;rw[bW,hd,show aj.sl { aC:=(s.gone d).aC.set d (.aE d),aJ:=(d, .aE τ (List.replicate n.toNat τ.zero))::(s.gone d).aJ }=iY (s.gone d).aC.length (s.gone d).sl (some d) (.aE d) from oB _ d _ _,
    show ({ aC:=(s.gone d).aC.set d (.aE d),aJ:=(d, .aE τ (List.replicate n.toNat τ.zero))::(s.gone d).aJ }:aj).aC.length=(s.gone d).aC.length from by simp]
   exact hh
  exact⟨_,conv _ key⟩
 case h_6 cl bl =>
  split at hq;case h_1 fN =>
   split at hq;case h_2=>cases hq
   case h_1 T id OV xy =>
   split at hq;case h_2=>cases hq
   case h_1 t r _ τ xs hT aU =>
   simp only[b0J,b0M] at hq;obtain⟨rfl,rfl⟩:=hq;have dP:=aN.jl (aY h) cl.args.toList;rw[xy] at dP;match kq:cl.args.toList.map a.eval,dP with
   | [x],dP =>
    obtain⟨_,l,eY,ad,m,cap,xx⟩:=dP.1;have hm:m=xs.length/\xs.length<=140737488355328:=by
     obtain⟨v0,l0,a1,RC,q1,q2,_,_,q5,_⟩:=h.aR.tr id τ xs aU;rw[eY,xx] at q1;simp only[b2p] at q1;have q1:(Value.slice ad m cap::l)=v0::l0:=congrArg Array.toList q1;simp only[b0O] at q1;rw[q2] at q1;simp only[b2z] at q1;exact⟨q1.1.2.1,q5⟩
    obtain⟨rfl,hmx⟩:=hm;have II:cl.argTypes = #[T]:=by rw[<-b1M (xs:=cl.argTypes),OV]
    have CS:cl.args.map a.eval = #[x]:=by rw[<-b1M (xs:=cl.args.map a.eval),b2J,kq]
    have O2:(execOp a.eval o)=(do let d <-resolve a.eval cl o.type;invoke d.target d.args):=by simp[execOp,bl]
    have IM:(execOp a.eval o).run c.P w=((Builtin.len_ #[T] o.type #[x]).run c.P w).andThen λ v w => .ok (.value v) w:=by
     rw[O2];simp[resolve,fN,invoke,builtin,II,CS]
    obtain⟨k1,_,_⟩:=hE.slice hT;have QS:∃ q,c.P.elem T=q/\c.P.underlying T=some (.slice q):=⟨_,by simp[Program.elem,k1],k1⟩;obtain⟨q,QS,k1⟩:=QS;refine yZ h (x := .int .i64 xs.length) ?_ (a4o ⟨by omega,by omega⟩);rw[IM,xx,run_len_slice w T o.type ad xs.length cap (by rw[QS];exact k1)];rfl
  case h_2 f fN =>
   split at hq;case h_2=>cases hq
   case h_1 d hd =>
   split at hq;case h_2=>cases hq
   split at hq;case h_1 m hm =>
    cases hq
   case h_2 hm =>
    split at hq;case h_2=>cases hq
    case h_1 Z9 has =>
    split at hq;case h_2=>cases hq
    case h_1 pre res hc =>
    split at hq;case h_2=>cases hq
    case h_1 hb =>
    simp only[Option.some.injEq,Prod.mk.injEq] at hq;obtain⟨rfl,rfl⟩:=hq;simp only[Bool.and_eq_true,List.all_eq_true] at hb;exact PZ hE h has (aN.jl (aY h) cl.args.toList) hc dY hd (λ p hp=>by simpa using hb.1 p hp) (de hb.2) (by omega) (λ px=>gA bl fN rfl px)
  case h_3=>cases hq
 case h_7=>cases hq
end
section
variable {w:World}
theorem bN.join{n:Nat}:∀ (ds:List D) {l:List Value} {fp:List Nat},bN w ds l fp->(∀ d∈ds,d.size=n) ->
  ds.length * n<=l.length/\∀ (es:List D) (m:List Value) (f2:List Nat),bN w es m f2->bN w (ds++es) (l.take (ds.length * n)++m) (fp++f2)
 | [],l,fp,h,_=>by
  have h:fp=[]:=h;subst h;exact⟨by simp,λ es m f2 k=>by simpa using k⟩
 | d::ds,l,fp,h,hn=>by
  obtain⟨c,r,f1,f2,rfl,rfl,h3,h4⟩:=h;have hc:c.length=n:=by rw[Ow.length d h3];exact hn d (by simp)
  obtain⟨k1,k2⟩:=bN.join ds h4 λ d hd=>hn d (by simp[hd]);have e:(d::ds).length * n=c.length+ds.length * n:=by rw[b0W,b1Q,hc];omega
  refine⟨by rw[e,b0Y];omega,λ es m f3 k=>?_⟩;refine⟨c,r.take (ds.length * n)++m,f1,f2++f3,?_,by simp,h3,k2 es m f3 k⟩;rw[e,xL,b1o]
theorem bN.rdL{n:Nat}:∀ (ds:List D) {l:List Value} {fp:List Nat},bN w ds l fp->(∀ d∈ds,d.size=n)->dj w (λ _=>True) ds (l.take (ds.length * n))
 | [],l,fp,h,_=>by simp[dj]
 | d::ds,l,fp,h,hn=>by
  obtain⟨c,r,f1,f2,rfl,rfl,h3,h4⟩:=h;have hc:c.length=n:=by rw[Ow.length d h3];exact hn d (by simp)
  have e:(d::ds).length * n=c.length+ds.length * n:=by rw[b0W,b1Q,hc];omega
  exact⟨c,r.take (ds.length * n),by rw[e,xL],Ow.rd d h3 λ _ _=>trivial,bN.rdL ds h4 λ d hd=>hn d (by simp[hd])⟩
theorem Hn{τ:Ty}(xs:List τ.den):∀ d∈xs.map τ.aK,d.size=τ.size:=by
 intro d hd;obtain⟨z,_,rfl⟩:=b0P.1 hd;exact Ty.cz τ z
theorem LN{g k:Nat}{l:List Value}{t:TypeId}(h:w.heap[g]?=some (.cells l.toArray t (0,0))):∀ j v,(l.take k)[j]?=some v->w.cell? ((⟨g,0,none⟩:Addr).add j)=some v:=by
 intro j v hj;rw[Addr.add_lit];have:=Ck (w:=w) (b:=g) (p:=[]) (c:=l.take k) (r:=l.drop k) (t:=t) (by simpa using h) j v hj;simpa using this
theorem Jv{P:Program}(t ty e:TypeId)(i:TypeInfo)(ht:P.underlying t=some (.slice e))(hi:P.info? e=some i)
  (g Qf a2T:Nat) (cur:Array Value) (t2:TypeId) (hg:w.heap[g]?=some (.cells cur t2 (0,0)))
  (a:Addr) (m c:Nat) (news:List Value) (hl:news.length=m * i.size) (zY:∀ j u,news[j]?=some u->w.cell? (a.add j)=some u) (h1:∀ u∈news,u.oneCell'=true)
  (z8:Qf+m<=a2T) (CL:Qf * i.size+news.length<=cur.size) :
  (Builtin.append_ #[t,t] ty #[.slice (some ⟨g,0,none⟩) Qf a2T, .slice (some a) m c]).run P w =
   .ok (.slice (some ⟨g,0,none⟩) (Qf+m) a2T) (w.setRow g (cur.toList.take (Qf * i.size)++news++cur.toList.drop (Qf * i.size+news.length)).toArray):=by
 have hf:=run_firstCells_some (P:=P) w i.size m a m c news hl zY;have cf:=run_storeCells_at P g (Qf * i.size) t2 news 0 cur w hg (by simpa using CL) h1;simp only[Nat.add_zero] at cf;simp[Builtin.append_,run_underlying ht,sizeOf,typeInfo,hi,Builtin.lenOf,z8,hf,Addr.add_lit,cf]
theorem RL{τ:Ty}{zs:List τ.den}{q:List Value}{fp:List Nat}{z:Array Value}{cap:Nat}{e:TypeId}(hq:bN w (zs.map τ.aK) q fp)(hql:q.length=zs.length * τ.size)(Kx:z.size=τ.size)
  (hc:zs.length<=cap) (hm:cap<=maxLen) (h47:zs.length<=140737488355328) (bz:∀ b∈fp,b<w.heap.size) :
  ij (w.drew.alloc (.cells (q.toArray++Builtin.zeroCells z (cap - zs.length)) e)) (.tuple (.slice (some ⟨w.heap.size,0,none⟩) zs.length cap::(q.toArray++Builtin.zeroCells z (cap - zs.length)).toList).toArray) τ zs (w.heap.size::fp):=by
 refine⟨_,_,some ⟨w.heap.size,0,none⟩,cap,rfl,rfl,hc,hm,h47, .inr ⟨w.heap.size,fp,e,rfl,rfl,?_,?_,?_⟩⟩
 .rw[b1M];exact b2g w.drew _
 .simp only[b5d,b0Y,hql,b1K,size_zeroCells,Kx];rw[<-b1Q];congr 1;omega
 .rw[b5d];have hk:∀ b∈fp,(w.drew.alloc (.cells (q.toArray++Builtin.zeroCells z (cap - zs.length)) e)).heap[b]?=w.heap[b]?:=λ b hb=>heap_alloc_old w.drew _ b (bz b hb);have:=bN.aM _ hq hk;have more:∀ (ds:List D) {l:List Value} {f:List Nat} (m:List Value),bN (w.drew.alloc (.cells (q.toArray++Builtin.zeroCells z (cap - zs.length)) e)) ds l f->bN (w.drew.alloc (.cells (q.toArray++Builtin.zeroCells z (cap - zs.length)) e)) ds (l++m) f:=by
   intro ds;induction ds with
   | nil=>intro l f m h;exact h
   | cons d ds ih =>
    intro l f m h;obtain⟨cc,r,f1,f2,rfl,hf,h3,h4⟩:=h;exact⟨cc,r++m,f1,f2,by simp,hf,h3,ih m h4⟩
  exact more _ _ this
end
section
variable {c:Ctx} {G:Gh} {sl:Nat->AV} {n:Nat} {lk:Nat->Option aB} {a:Act} {w w':World}
theorem Sw(hE:bp c.P c.E){T:TypeId}{τ:Ty}{b e:Nat}(hT:ai c.E.ty T=some (.slice τ,b,e)){xs ys:List τ.den}{x y:Value}{fx fy:List Nat}
  (hx:Ow w (.slice τ.size (xs.map τ.aK)) [x] fx) (hy:Ow w (.slice τ.size (ys.map τ.aK)) [y] fy) (QW:∀ k∈fx,k<w.heap.size) (hly:∀ k∈fy,k<w.heap.size) (vF:fx.Nodup) (hny:fy.Nodup) (hd:∀ k∈fx,k∉fy)
  (z8:bC (xs.length+ys.length) b) (ty:TypeId) :
  ∃ v' w' fp l,(Builtin.append_ #[T,T] ty #[x,y]).run c.P w = .ok v' w'/\ij w' (.tuple (v'::l).toArray) τ (xs++ys) fp/\(∃ a n m,v' = .slice a n m)/\fp.Nodup/\(∀ k∈fp,k∈fx\/k∈fy\/(w.heap.size<=k/\k<w'.heap.size))/\bK (λ k=>k∈fx) w w':=by
 obtain⟨k1,⟨b',e',k2⟩,i,zv,k3,k4,k5,k6,k7⟩:=hE.slice hT;have Kx:zv.cells.size=τ.size:=by
  have:=Rd.length _ (JQ (w:=w) (S:=λ _=>True) k7);rwa [Ty.cz,b1K] at this
 have CO:=τ.size_pos;have QY:(xs.length+ys.length) * b<=140737488355328/\xs.length+ys.length<=140737488355328:=by
  unfold bC at z8;rw[Nat.mul_add,Nat.mul_one] at z8;omega
 have IQ:xs.length+ys.length<=maxLen:=by simp only[maxLen];omega
 obtain⟨lx,hxT,_⟩:=ij.XB hx;have hx0:=hx;obtain⟨ax,E7,x1,x2,x3,x4,x5⟩:=hx;obtain⟨ay,Uz,y1,y2,y3,y4,y5⟩:=hy;simp only[b0O,b1i,b1F] at x1 x2 x4 y1 y2 y4;subst x1 y1;have same:(Builtin.append_ #[T,T] ty #[.slice ax xs.length E7, .slice ay ys.length Uz]).run c.P w = .ok (.slice ax xs.length E7) w->ys=[]->∃ v' w' fp l,(Builtin.append_ #[T,T] ty #[.slice ax xs.length E7, .slice ay ys.length Uz]).run c.P w = .ok v' w'/\ij w' (.tuple (v'::l).toArray) τ (xs++ys) fp/\(∃ a n m,v' = .slice a n m)/\fp.Nodup/\(∀ k∈fp,k∈fx\/k∈fy\/(w.heap.size<=k/\k<w'.heap.size))/\bK (λ k=>k∈fx) w w':=by
  intro hr he;subst he;exact⟨_,w,fx,lx,hr,by simpa using hxT,⟨_,_,_,rfl⟩,vF,λ k hk => .inl hk,bK.refl _ _⟩
 rcases y5 with ⟨q1,⟨q2,q3⟩,q4⟩|⟨gy,f2,l2,t2,q1,q2,q3,q4,q5⟩
 .have EP:ys=[]:=by simpa using q1
  subst EP;refine same ?_ rfl;subst q2;simp[Builtin.append_,b1A k1,sizeOf,typeInfo,k3,Builtin.lenOf,Builtin.firstCells,x2,storeCells];cases ax<;>rfl
 .subst q1 q2;have hsy:=Hn ys;obtain⟨j1,_⟩:=bN.join _ q5 hsy;rw[b1F] at j1;have zZ:(l2.take (ys.length * τ.size)).length=ys.length * τ.size:=by rw[b1T];omega
  have uo:∀ u∈l2.take (ys.length * τ.size),u.oneCell'=true:=by
   have:=bN.rdL _ q5 hsy;rw[b1F] at this;exact dj.jF this
  have zY:=LN (w:=w) (k:=ys.length * τ.size) q3;have a1W:bN w (ys.map τ.aK) (l2.take (ys.length * τ.size)) f2:=by
   have:=(bN.join _ q5 hsy).2 [] [] [] rfl;simpa using this
  rcases x5 with ⟨p1,⟨p2,p3⟩,p4⟩|⟨gx,f1,l1,t1,p1,p2,p3,p4,p5⟩
  .have kq:xs=[]:=by simpa using p1
   subst kq p2 p3 p4;by_cases hm:ys=[]
   .refine same ?_ hm;subst hm;simp[Builtin.append_,b1A k1,sizeOf,typeInfo,k3,Builtin.lenOf,Builtin.firstCells,loadCells,loadCellsFrom]
   .have hm0:0<ys.length:=List.length_pos_iff.2 hm;have hr:=run_append_nil (P:=c.P) w T ty e i zv k1 k3 k6 ⟨gy,0,none⟩ ys.length Uz (l2.take (ys.length * τ.size)) (by rw[zZ,k4]) zY hm0 (by omega) (by rw[k5];have:=QY.1;simp only[List.length_nil,Nat.zero_add] at this;omega);have hg:=RL (w:=w) (e:=e) (zs:=ys) (cap:=grownCap w ys.length 0 e) a1W zZ Kx (grownCap_ge w ys.length 0 e) (grownCap_le_maxLen w ys.length 0 e (by simpa using IQ)) (by omega) (λ k hk=>hly k (by simp[hk]));refine⟨.slice (some ⟨w.heap.size,0,none⟩) ys.length (grownCap w ys.length 0 e),w.drew.alloc (.cells ((l2.take (ys.length * τ.size)).toArray++Builtin.zeroCells zv.cells (grownCap w ys.length 0 e - ys.length)) e),w.heap.size::f2,_,hr,hg,⟨_,_,_,rfl⟩,?_,?_,⟨rfl,rfl,rfl,by simp,λ k hk _=>heap_alloc_old w.drew _ k hk⟩⟩
    .rw[b1q] at hny ⊢;exact⟨λ hh=>b3k _ (hly _ (by simp[hh])),hny.2⟩
    .intro k hk;rcases b0X.1 hk with rfl|hk
     .exact .inr (.inr ⟨b1d _,by simp⟩)
     .exact .inr (.inl (by simp[hk]))
  .subst p1 p2;have hsx:=Hn xs;obtain⟨i1,i2⟩:=bN.join _ p5 hsx;rw[b1F] at i1 i2;have rE:(l1.take (xs.length * τ.size)).length=xs.length * τ.size:=by rw[b1T];omega
   have O5:(f1++f2).Nodup/\gx∉f1++f2:=by
    rw[b1q] at vF hny;refine⟨b1e.2 ⟨vF.2,hny.2,λ k hk k' eX e=>?_⟩,λ hh=>?_⟩
    .subst e;exact hd k (by simp[hk]) (by simp[eX])
    .rcases b0K.1 hh with hh|hh
     .exact vF.1 hh
     .exact hd gx (by simp) (by simp[hh])
   have fB:=i2 (ys.map τ.aK) _ f2 a1W;rw[<-b2b] at fB;by_cases CL:xs.length+ys.length<=E7
   .have iP:xs.length * i.size+(l2.take (ys.length * τ.size)).length<=l1.toArray.size:=by
     rw[zZ,k4,<-b1Q,b4r,p4];exact b2u _ CL
    have hr:=Jv (P:=c.P) (w:=w) T ty e i k1 k3 gx xs.length E7 l1.toArray t1 p3 ⟨gy,0,none⟩ ys.length Uz (l2.take (ys.length * τ.size)) (by rw[zZ,k4]) zY uo CL iP;have hJ:∀ k,k≠gx->(w.setRow gx (l1.toArray.toList.take (xs.length * i.size)++l2.take (ys.length * τ.size)++l1.toArray.toList.drop (xs.length * i.size+(l2.take (ys.length * τ.size)).length)).toArray).heap[k]?=w.heap[k]?:=λ k hk=>lh w p3 k hk;refine⟨_,_,gx::(f1++f2),(l1.take (xs.length * τ.size)++l2.take (ys.length * τ.size)++l1.drop (xs.length * τ.size+ys.length * τ.size)),hr,?_,⟨_,_,_,rfl⟩,b1q.2 ⟨O5.2,O5.1⟩,?_,⟨rfl,rfl,rfl,by simp[World.setRow],λ k hk dD=>hJ k λ e=>dD (by simp[e])⟩⟩
    .refine⟨_,_,some ⟨gx,0,none⟩,E7,rfl,by simp,by simpa using CL,x3,by simp;omega, .inr ⟨gx,f1++f2,t1,rfl,rfl,?_,?_,?_⟩⟩
     .have:=b5p w gx l1.toArray (l1.toArray.toList.take (xs.length * i.size)++l2.take (ys.length * τ.size)++l1.toArray.toList.drop (xs.length * i.size+(l2.take (ys.length * τ.size)).length)).toArray t1 (0,0) p3;rw[this,zZ,k4]
     .simp only[b0Y,rE,zZ,b1Z,p4];have:xs.length * τ.size+ys.length * τ.size<=E7 * τ.size:=by rw[<-b1Q];exact b2u _ CL
      omega
     .have hk:∀ k∈f1++f2,(w.setRow gx (l1.toArray.toList.take (xs.length * i.size)++l2.take (ys.length * τ.size)++l1.toArray.toList.drop (xs.length * i.size+(l2.take (ys.length * τ.size)).length)).toArray).heap[k]?=w.heap[k]?:=λ k hk=>hJ k λ e=>O5.2 (e ▸ hk);have h2:=bN.aM _ fB hk;have more:∀ (w2:World) (ds:List D) {l:List Value} {f:List Nat} (m:List Value),bN w2 ds l f->bN w2 ds (l++m) f:=by
       intro w2 ds;induction ds with
       | nil=>intro l f m h;exact h
       | cons d ds ih =>
        intro l f m h;obtain⟨cc,r,f1,f2,rfl,hf,h3,h4⟩:=h;exact⟨cc,r++m,f1,f2,by simp,hf,h3,ih m h4⟩
      exact more _ _ _ h2
    .intro k hk;rcases b0X.1 hk with rfl|hk
     .exact .inl (by simp)
     .rcases b0K.1 hk with hk|hk
      .exact .inl (by simp[hk])
      .exact .inr (.inl (by simp[hk]))
   .have hr:=run_append_grow (P:=c.P) w T ty e i zv k1 k3 k6 ⟨gx,0,none⟩ xs.length E7 (l1.take (xs.length * τ.size)) (by rw[rE,k4]) (LN p3) ⟨gy,0,none⟩ ys.length Uz (l2.take (ys.length * τ.size)) (by rw[zZ,k4]) zY (by omega) (by omega) (by rw[k5];exact growslice_fits (by omega) QY.1);have hql:(l1.take (xs.length * τ.size)++l2.take (ys.length * τ.size)).length=(xs++ys).length * τ.size:=by rw[b0Y,rE,zZ,b0Y,b1Q]
    have hle:(xs++ys).length=xs.length+ys.length:=b0Y;have bz:∀ k∈f1++f2,k<w.heap.size:=λ k hk=>by
     rcases b0K.1 hk with hk|hk
     .exact QW k (by simp[hk])
     .exact hly k (by simp[hk])
    have hg:=RL (w:=w) (e:=e) (zs:=xs++ys) (cap:=grownCap w (xs.length+ys.length) E7 e) fB hql Kx (by rw[hle];exact grownCap_ge w _ _ e) (grownCap_le_maxLen w _ _ e IQ) (by omega) bz;rw[hle] at hg;refine⟨_,w.drew.alloc (.cells ((l1.take (xs.length * τ.size)).toArray++(l2.take (ys.length * τ.size)).toArray++Builtin.zeroCells zv.cells (grownCap w (xs.length+ys.length) E7 e - (xs.length+ys.length))) e),w.heap.size::(f1++f2),_,hr,by simpa [hle] using hg,⟨_,_,_,rfl⟩,?_,?_,⟨rfl,rfl,rfl,by simp,λ k hk _=>heap_alloc_old w.drew _ k hk⟩⟩
    .exact b1q.2 ⟨λ hh=>b3k _ (bz _ hh),O5.1⟩
    .intro k hk;rcases b0X.1 hk with rfl|hk
     .exact .inr (.inr ⟨b1d _,by simp⟩)
     .rcases b0K.1 hk with hk|hk
      .exact .inl (by simp[hk])
      .exact .inr (.inl (by simp[hk]))
end
section
variable {c:Ctx} {G:Gh} {s:aj} {a:Act} {w w':World}
theorem Inv.built(h:Inv c G s a w){ids:List Nat}{d:Nat}{τ:Ty}{zs:List τ.den}{fp:List Nat}{v':Value}{l:List Value}(hk:bK (λ b=>tB G s.ai ids b) w w')(hT:ij w' (.tuple (v'::l).toArray) τ zs fp)
  (hv:∃ a n m,v' = .slice a n m) (dh:fp.Nodup) (lZ:∀ b∈fp,tB G s.ai ids b\/(w.heap.size<=b/\b<w'.heap.size)) (py:(ids.foldl aj.gone s).ai (bJ d)=none) :
  ∃ G',Inv c G' ((ids.foldl aj.gone s).qf d τ zs) (a.put (some d) v') w':=by
 have h1:Inv c G (ids.foldl aj.gone s) a w:=uc ids h;have hF:∀ b,tB G s.ai ids b->sM c G (ids.foldl aj.gone s).ai w b:=λ b hb=>Iu h hb;generalize Xj:ids.foldl aj.gone s=s1 at *
 have hblk:∀ b,b<w.heap.size->¬ tB G s.ai ids b->w'.heap[b]?=w.heap[b]?:=λ b hb hn=>hk.block b hb hn;have h2:bh c G s1.sl s1.aC.length s1.ai a w':=by
  refine bh.world (S':=G.S) h1 ⟨hk.os,hk.tape,hk.output,hk.size,λ b hb hn=>hblk b hb λ hi=>hn (hF b hi).1⟩ (λ _ h=>h) (λ _ _=>b2F) h1.sX (λ b hb=>b0V (h1.dE b hb) hk.size) ?_ ?_ ?_
  .intro b hb;rcases hb with hb|hb
   .exact hblk b (h1.dE b hb) λ hi=>(hF b hi).2.1 hb
   .exact hblk b (b0V hb.1 h1.aM.size) λ hi=>(hF b hi).1.elim (λ q=>by omega) hb.2.1
  .intro id o b ho hb;exact hblk b (h1.place id o b ho hb).2.2 λ hi=>(hF b hi).2.2.2.1 id o ho hb
  .intro id aW cK b ht hb;exact hblk b (h1.aR.pl id aW cK b ht hb).2.2.1 λ hi=>(hF b hi).2.2.2.2 id aW cK ht hb
 obtain⟨r1,r2⟩:=h2.PV py;have hR:c.R (bJ d)=none:=by
  cases hr:c.R (bJ d) with
  | none=>rfl
  | some v=>have:=(h.fP _ v hr).2;unfold bJ at this;omega
 have h3:=h2.PS (bJ d) τ zs _ fp py r1 r2 hR hT dh (λ b hb=>by
  rcases lZ b hb with hi|⟨q1,q2⟩
  .obtain⟨f1,f2,f3,f4,f5⟩:=hF b hi;exact⟨f1,f2,b0V f3 hk.size,f4,f5⟩
  .refine⟨.inl (b2c h1.aM.size q1),λ hs=>?_,q2,λ i o cr rA=>?_,λ j jr lK hj lX=>?_⟩
   .have:=h1.dE b hs;omega
   .have:=(h1.place i o b cr rA).2.2;omega
   .have:=(h1.aR.pl j jr lK b hj lX).2.2.1;omega)
 have key:=bh.put (d:=some d) (v := .aE (bJ d)) (x:=v') h3 ⟨by simp[cS],l,by simp,hv⟩;have bW:(s1.qf d τ zs).ai=λ i=>if i=bJ d then some (.aE τ zs) else s1.ai i:=by
  funext i;exact dx _ _ _ _
 have conv:∀ G',bh c G' (iY s1.aC.length s1.sl (some d) (.aE (bJ d))) s1.aC.length (λ i=>if i=bJ d then some (.aE τ zs) else s1.ai i) (a.put (some d) v') w'->Inv c G' (s1.qf d τ zs) (a.put (some d) v') w':=by
  intro G' hh;unfold Inv;rw[bW,show (s1.qf d τ zs).sl=iY s1.aC.length s1.sl (some d) (.aE (bJ d)) from oB _ d _ _,show (s1.qf d τ zs).aC.length=s1.aC.length from by simp[aj.qf]];exact hh
 exact⟨_,conv _ key⟩
theorem Inv.over{s1:aj}{X:Nat->Prop}(h1:Inv c G s1 a w)(hF:∀ b,X b->sM c G s1.ai w b)(hk:bK X w w'):bh c G s1.sl s1.aC.length s1.ai a w':=by
 have hblk:∀ b,b<w.heap.size->¬ X b->w'.heap[b]?=w.heap[b]?:=λ b hb hn=>hk.block b hb hn;refine bh.world (S':=G.S) h1 ⟨hk.os,hk.tape,hk.output,hk.size,λ b hb hn=>hblk b hb λ hi=>hn (hF b hi).1⟩ (λ _ h=>h) (λ _ _=>b2F) h1.sX (λ b hb=>b0V (h1.dE b hb) hk.size) ?_ ?_ ?_
 .intro b hb;rcases hb with hb|hb
  .exact hblk b (h1.dE b hb) λ hi=>(hF b hi).2.1 hb
  .exact hblk b (b0V hb.1 h1.aM.size) λ hi=>(hF b hi).1.elim (λ q=>by omega) hb.2.1
 .intro id o b ho hb;exact hblk b (h1.place id o b ho hb).2.2 λ hi=>(hF b hi).2.2.2.1 id o ho hb
 .intro id aW cK b ht hb;exact hblk b (h1.aR.pl id aW cK b ht hb).2.2.1 λ hi=>(hF b hi).2.2.2.2 id aW cK ht hb
theorem sM.a4f{lk:Nat->Option aB}{b:Nat}(h:sM c G lk w b):¬ SX G lk b:=by
 rintro (hb|⟨id,e,τ,ys,aU,hb⟩|⟨id,τ,ys,aU,hb⟩)
 .exact h.2.1 hb
 .exact h.2.2.2.1 id _ aU hb
 .exact h.2.2.2.2 id τ ys aU hb
theorem u7(h:Inv c G s a w):∀ {fl:List Bool} {Ts:List TypeId} {vs:List AV} {xs:List Value} {own:List (Option TV)} {ids:List Nat},gj c.E s.ai fl Ts vs=some (own,ids)->ids.Nodup->aN (VR c G s.ai w) vs xs ->
  ∃ xq:List (List Nat),aN (λ (o:Option TV) (q:Value×List Nat)=>match o with
   | some v=>xd w v q.1 q.2
   | none=>q.2=[]) own (xs.zip xq)/\xq.length=xs.length/\xq.flatten.Nodup/\∀ b∈xq.flatten,tB G s.ai ids b
 | [],[],[],[],own,ids,ht,_,_=>by
  simp only[gj,b0J,b0M] at ht;obtain⟨rfl,rfl⟩:=ht;exact⟨[],ag,rfl,by simp,by simp⟩
 | true::fl,T::Ts,v::vs,x::xs,own,ids,ht,hn,hv=>by
  simp only[gj] at ht;split at ht;case h_2=>cases ht
  case h_1 τ q hT =>
  split at ht;case h_2=>cases ht
  case h_1 y i hy =>
  split at ht;case h_2=>cases ht
  case h_1 r j hr =>
  simp only[b0J,b0M] at ht;obtain⟨rfl,rfl⟩:=ht;rw[b1e] at hn;obtain⟨n1,n2,n3⟩:=hn;obtain⟨f1,o1,o2,o3⟩:=qE h hy hv.1 n1;obtain⟨xq,p1,p2,p3,p4⟩:=u7 h hr n2 hv.2;refine⟨f1::xq,⟨o1,p1⟩,by simp[p2],?_,?_⟩
  .rw[List.flatten_cons];exact dR o2 p3 λ b hb cv=>h.hU (o3 b hb) (p4 b cv) (λ x hx y hy=>n3 x hx y hy)
  .intro b hb;rw[List.flatten_cons] at hb;rcases b0K.1 hb with hb|hb
   .exact (o3 b hb).mono λ i hi=>by simp[hi]
   .exact (p4 b hb).mono λ i hi=>by simp[hi]
 | false::fl,T::Ts,v::vs,x::xs,own,ids,ht,hn,hv=>by
  simp only[gj] at ht;split at ht;case h_2=>cases ht
  case h_1 r j hr =>
  simp only[Option.some.injEq,Prod.mk.injEq] at ht;obtain⟨rfl,rfl⟩:=ht;obtain⟨xq,p1,p2,p3,p4⟩:=u7 h hr hn hv.2;exact⟨[]::xq,⟨rfl,p1⟩,by simp[p2],by simpa using p3,by simpa using p4⟩
 | [],_::_,_,_,_,_,ht,_,_=>by simp[gj] at ht
 | [],[],_::_,_,_,_,ht,_,_=>by simp[gj] at ht
 | [],[],[],_::_,_,_,_,_,hv=>hv.elim
 | true::_,[],_,_,_,_,ht,_,_=>by simp[gj] at ht
 | false::_,[],_,_,_,_,ht,_,_=>by simp[gj] at ht
 | true::_,_::_,[],_,_,_,ht,_,_=>by simp[gj] at ht
 | false::_,_::_,[],_,_,_,ht,_,_=>by simp[gj] at ht
 | _,_,_::_,[],_,_,_,_,hv=>hv.elim
theorem rO(hE:bp c.P c.E)(h:Inv c G s a w):∀ {own:List (Option TV)} {Ts:List TypeId} {vs:List AV} {xs:List Value} {xq:List (List Nat)} {Z9:List Arg},e8 c.E s.ai own Ts vs=some Z9 ->
  aN (λ (o:Option TV) (q:Value×List Nat)=>match o with
   | some v=>xd w v q.1 q.2
   | none=>q.2=[]) own (xs.zip xq)->xq.length=xs.length->aN (VR c G s.ai w) vs xs->qG c.P w (SX G s.ai) Z9 xs xq.flatten/\∀ a∈Z9,a.HE=true
 | [],[],[],[],xq,Z9,hm,hO,hl,hv=>by
  simp only[e8,Option.some.injEq] at hm;subst hm;have:xq=[]:=List.eq_nil_of_length_eq_zero (by simpa using hl);subst this;exact⟨rfl,by simp⟩
 | some y::own,T::Ts,v::vs,x::xs,f::xq,Z9,hm,hO,hl,hv=>by
  simp only[e8] at hm;split at hm;case h_2=>cases hm
  case h_1 r hr =>
  simp only[Option.some.injEq] at hm;subst hm;obtain⟨q1,q2⟩:=rO hE h hr hO.2 (by simpa using hl) hv.2;refine⟨⟨f,xq.flatten,by simp,hO.1,q1⟩,λ a ha=>?_⟩;rcases List.mem_cons.1 ha with rfl|ha
  .rfl
  .exact q2 a ha
 | none::own,T::Ts,v::vs,x::xs,f::xq,Z9,hm,hO,hl,hv=>by
  simp only[e8] at hm;split at hm;case h_2=>cases hm
  case h_1 y hy =>
  split at hm;case h_2=>cases hm
  case h_1 r LZ hr =>
  simp only[Option.some.injEq] at hm;subst hm;obtain⟨q1,q2⟩:=rO hE h hr hO.2 (by simpa using hl) hv.2;have hf:f=[]:=hO.1;subst hf;have h1:=gN hE h (λ _ _ h=>h) (λ _ h => .inl h) (λ τ v x y h1 h2=>vL h.aR h.aJ (λ _ _ h=>h) h1 h2) (Ts:=[T]) (vs:=[v]) (Z9:=[y]) (xs:=[x]) (by simp only[kJ,hy]) ⟨hv.1,ag⟩;refine⟨⟨[],xq.flatten,by simp,?_,q1⟩,λ a ha=>?_⟩
  .have h1:=h1.1;cases y with
   | own v=>exact h1.elim
   | box k=>exact h1.elim
   | _=>exact⟨rfl,h1⟩
  .rcases b0X.1 ha with rfl|ha
   .exact LZ
   .exact q2 a ha
 | [],[],[],_::_,_,_,_,_,_,hv=>hv.elim
 | _,_,_::_,[],_,_,_,_,_,hv=>hv.elim
 | [],_::_,_,_,_,_,hm,_,_,_=>by simp[e8] at hm
 | [],[],_::_,_,_,_,hm,_,_,_=>by simp[e8] at hm
 | some _::_,[],_,_,_,_,hm,_,_,_=>by simp[e8] at hm
 | none::_,[],_,_,_,_,hm,_,_,_=>by simp[e8] at hm
 | some _::_,_::_,[],_,_,_,hm,_,_,_=>by simp[e8] at hm
 | none::_,_::_,[],_,_,_,hm,_,_,_=>by simp[e8] at hm
 | _::_,_::_,_::_,_::_,[],_,_,_,hl,_=>by simp at hl
theorem Qw{lk:Nat->Option aB}{τ:Ty}:∀ {ps:List (Nat×AV)} {n:Nat} {xs:List τ.den} {ids:List Nat},DK lk τ n ps=some (xs,ids)->xs.length=ps.length
 | [],n,xs,ids,h=>by
  simp only[DK,b0J,b0M] at h;obtain⟨rfl,_⟩:=h;rfl
 | (i,v)::ps,n,xs,ids,h=>by
  simp only[DK] at h;split at h
  .split at h
   .split at h
    .rename_i q;simp only[b0J,b0M] at h;obtain⟨rfl,_⟩:=h;simp[Qw q]
    .cases h
   .cases h
  .cases h
theorem Ml(h:Inv c G s a w){τ:Ty}{place:Nat->Option (Nat×Nat)}(hp:∀ i,place i=some (i * τ.size,τ.size)) :
  ∀ {ps:List (Nat×AV)} {vs:List (Nat×Value)} {n:Nat} {xs:List τ.den} {ids:List Nat} {l:List Value},DK s.ai τ n ps=some (xs,ids)->aN (λ p q=>p.1=q.1/\VR c G s.ai w p.2 q.2) ps vs->ids.Nodup ->
   (n+ps.length) * τ.size=l.length->∃ r fp,Instr.fill place l.toArray vs=some (l.take (n * τ.size)++r).toArray/\bN w (xs.map τ.aK) r fp/\r.length=xs.length * τ.size/\fp.Nodup/\∀ b∈fp,tB G s.ai ids b
 | [],[],n,xs,ids,l,h1,_,_,hl=>by
  simp only[DK,b0J,b0M] at h1;obtain⟨rfl,rfl⟩:=h1;refine⟨[],[],?_,rfl,by simp,b1V,by simp⟩;simp only[b1f,b2L] at hl;rw[hl,List.take_length,b1E];rfl
 | (i,v)::ps,(j,x)::vs,n,xs,ids,l,h1,hv,dh,hl=>by
  obtain⟨⟨rC,hx⟩,Pa⟩:=hv;have rC:i=j:=rC;subst rC;simp only[DK] at h1;split at h1
  .rename_i fu;have fu:=b0L fu;subst fu;split at h1
   .rename_i y i1 hy;split at h1
    .rename_i ys js EP;simp only[b0J,b0M] at h1;obtain⟨rfl,rfl⟩:=h1;rw[b1e] at dh;obtain⟨n1,n2,n3⟩:=dh;obtain⟨f1,o1,o2,o3⟩:=qE h hy hx n1;have hr:=xd.cells o1;have cj:x.cells.size=τ.size:=by
      have:=Ow.length _ hr;rw[Ty.cz] at this;simpa using this
     simp only[b0W] at hl;have CO:=τ.size_pos;have e1:(i+(ps.length+1)) * τ.size=i * τ.size+τ.size+ps.length * τ.size:=by
      rw[b1Q,b1Q];omega
     rw[Ke place i _ _ x vs l (hp i) cj (by omega)];obtain⟨r,f2,q1,q2,q3,q4,q5⟩:=Ml h hp (l:=l.take (i * τ.size)++x.cells.toList++l.drop (i * τ.size+τ.size)) EP Pa n2 (by
      simp[cj];rw[show (i+1+ps.length) * τ.size=i * τ.size+τ.size+ps.length * τ.size by rw[b1Q,b1Q];omega];omega)
     refine⟨x.cells.toList++r,f1++f2,?_,⟨_,_,f1,f2,rfl,rfl,hr,q2⟩,?_,?_,?_⟩
     .rw[q1];congr 2;rw[show (i+1) * τ.size=i * τ.size+τ.size by rw[b1Q];omega];have ht:(l.take (i * τ.size)++x.cells.toList).length=i * τ.size+τ.size:=by simp[cj];omega
      rw[<-ht,b2S,b1o]
     .simp only[b0Y,b0W,b1K,cj,q3,b1Q];omega
     .exact dR o2 q4 λ b hb cv=>h.hU (o3 b hb) (q5 b cv) (λ x hx y hy=>n3 x hx y hy)
     .intro b hb;rcases b0K.1 hb with hb|hb
      .exact (o3 b hb).mono λ i hi=>by simp[hi]
      .exact (q5 b hb).mono λ i hi=>by simp[hi]
    .cases h1
   .cases h1
  .cases h1
 | [],_::_,_,_,_,_,_,hv,_,_=>hv.elim
 | _::_,[],_,_,_,_,_,hv,_,_=>hv.elim
theorem bK.a2r{X Y:Nat->Prop}{w w':World}(h:bK X w w')(hXY:∀ b,X b->Y b):bK Y w w':=⟨h.os,h.tape,h.output,h.size,λ b hb hn=>h.block b hb λ hx=>hn (hXY b hx)⟩
theorem Tx(h:Inv c G s a w){ids:List Nat}{b:Nat}(hb:tB G s.ai ids b):b<w.heap.size:=(Iu h hb).2.2.1
theorem Wa{lk:Nat->Option aB}{τ:Ty}{v:AV}{r:τ.den×List Nat}(h:eO lk τ v=some r):v.cell=true\/∃ s x,v = .aO ⟨.st s,x⟩:=by
 cases v with
 | aO u =>
  obtain⟨aW,x⟩:=u;cases aW with
  | st s=>exact .inr ⟨s,x,rfl⟩
  | _=>exact .inl rfl
 | nil=>exact .inl rfl
 | aE id=>exact .inl rfl
 | row id=>exact .inl rfl
 | _=>simp[eO] at h
theorem a3n(h:Inv c G s a w){τ:Ty}{v:AV}{x:Value}{xs:List τ.den}{ids:List Nat}(ht:eO s.ai (.slice τ) v=some (xs,ids))(hv:VR c G s.ai w v x):∃ fp,Ow w (.slice τ.size (xs.map τ.aK)) [x] fp/\fp.Nodup/\∀ b∈fp,tB G s.ai ids b:=by
 rcases Wa ht with hc|⟨st,y,rfl⟩
 .exact wX h ht (hv.Se hc)
 .simp[eO,Ty.qA] at ht
theorem iT:∀ {us:List TV} {cs:List Value} {fp:List Nat},cY w (us.map TV.aK) cs fp->xO us->cY w ((us.map WY).map TV.aK) cs fp
 | [],_,_,h,_=>h
 | ⟨τ,x⟩::us,cs,fp,h,hf=>by
  obtain⟨v,r,f1,f2,rfl,rfl,h3,h4⟩:=h;cases τ with
  | mv t =>
   have hf:Option.isSome (α:=List t.den) x=true/\xO us:=hf;refine⟨v,r,f1,f2,rfl,rfl,?_,iT h4 hf.2⟩;match x,hf.1,h3 with
   | some l,_,h3=>exact h3
  | ptr=>exact⟨v,r,f1,f2,rfl,rfl,h3,iT h4 hf⟩
  | int k=>exact⟨v,r,f1,f2,rfl,rfl,h3,iT h4 hf⟩
  | bool=>exact⟨v,r,f1,f2,rfl,rfl,h3,iT h4 hf⟩
  | str=>exact⟨v,r,f1,f2,rfl,rfl,h3,iT h4 hf⟩
  | slice t=>exact⟨v,r,f1,f2,rfl,rfl,h3,iT h4 hf⟩
  | st q=>exact⟨v,r,f1,f2,rfl,rfl,h3,iT h4 hf⟩
theorem Ii:∀ {us:List TV} {cs:List Value} {fp:List Nat},cY w (us.map TV.aK) cs fp->(∀ u∈us,u.τ.NG=true)->cY w ((us.map S3).map TV.aK) cs []
 | [],_,_,h,_=>⟨h.1,rfl⟩
 | ⟨τ,x⟩::us,cs,fp,h,hf=>by
  obtain⟨v,r,f1,f2,rfl,rfl,h3,h4⟩:=h;have hr:=Ii h4 λ u hu=>hf u (by simp[hu]);have sc:τ.qA=true->Ow w (τ.aK x) [v] []:=λ hs=>Ow.eK (S:=λ _=>True) _ (qB hs x) (Ow.rd _ h3 λ _ _=>trivial);have hm:τ.NG=true:=hf ⟨τ,x⟩ (by simp);cases τ with
  | mv t =>
   refine⟨v,r,[],[],rfl,rfl,?_,hr⟩;match x,h3 with
   | some l,h3=>obtain⟨a',cap,k1,_⟩:=h3;exact⟨⟨_,_,_,k1⟩,rfl⟩
   | none,h3=>exact⟨h3.1,rfl⟩
  | int k=>exact⟨v,r,[],[],rfl,rfl,sc rfl,hr⟩
  | bool=>exact⟨v,r,[],[],rfl,rfl,sc rfl,hr⟩
  | str=>exact⟨v,r,[],[],rfl,rfl,sc rfl,hr⟩
  | slice t=>cases hm
  | ptr=>exact⟨v,r,[],[],rfl,rfl,sc rfl,hr⟩
  | st q=>cases hm
theorem a0l(l:List Value)(k n:Nat):l.take k++(l.drop k).take n++l.drop (k+n)=l:=by
 rw[b1o,<-b4f,b2q,b2q]
theorem Inv.a6H(h:Inv c G s a w){id i:Nat}{p q:aL}{xs:List (Ty.den (.st p))}{y:p.den}{z:q.den}(aU:s.ai id=some (.aE (.st p) xs))
  (hy:p.fj ((p.cells (xs.getD i (Ty.zero (.st p)))).map S3)=some y) (hz:q.fj ((p.cells (xs.getD i (Ty.zero (.st p)))).map WY)=some z) (yA:p.nk.all Ty.NG=true)
  (a6t:xO (p.cells (xs.getD i (Ty.zero (.st p))))) {a0:Option Addr} {n cap:Nat} {l:List Value} (eY:G.η id = .tuple (.slice a0 n cap::l).toArray) (hi:i<n) :
  ∃ G' f1 b,a0=some ⟨b,0,none⟩/\bo w b (i * p.size) ((l.drop (i * p.size)).take p.size)/\((l.drop (i * p.size)).take p.size).length=p.size/\Inv c G' (s.cm.fQ id (.st p) (xs.set i y)) a w /\
   Ow w (q.aK z) ((l.drop (i * p.size)).take p.size) f1/\f1.Nodup/\Fr c G' (s.cm.fQ id (.st p) (xs.set i y)).ai w f1:=by
 have hT:=h.aR.tr id _ xs aU;obtain⟨hn,b,f,t,e1,Ph,hh,fB⟩:=tq hT eY hi;have EO:i<xs.length:=by omega
 have CI:l.length=cap * p.size/\xs.length<=cap/\cap<=maxLen/\xs.length<=140737488355328:=by
  obtain⟨v0,l0,a1,RC,k1,k2,k3,k4,k5,k6⟩:=hT;rw[eY] at k1;simp only[b2p] at k1;have k1:(Value.slice a0 n cap::l)=v0::l0:=congrArg Array.toList k1;simp only[b0O] at k1;obtain⟨k7,rfl⟩:=k1;rw[k2] at k7;simp only[b2z] at k7;obtain⟨_,_,rfl⟩:=k7;rcases k6 with ⟨rfl,_,_⟩|⟨_,_,_,_,_,_,k8,_⟩
  .simp at EO
  .exact⟨k8,k3,k4,k5⟩
 have cj:∀ d∈xs.map (Ty.aK (.st p)),d.size=p.size:=Hn (τ := .st p) xs;obtain⟨f0,f1,f2,hf,m0,m1,m2⟩:=bN.split (xs.map (Ty.aK (.st p))) i (Ty.aK (.st p) (xs.getD i (Ty.zero (.st p)))) fB cj (by simp[List.getD,EO]);have sC:((l.drop (i * p.size)).take p.size).length=p.size:=by rw[b1T,b1Z];omega
 have m1:Ow w (.agg ((p.cells (xs.getD i (Ty.zero (.st p)))).map TV.aK)) ((l.drop (i * p.size)).take p.size) f1:=by
  have:=m1;rwa [show Ty.aK (.st p) (xs.getD i (Ty.zero (.st p)))=p.aK (xs.getD i (Ty.zero (.st p))) from rfl,aL.bX] at this
 have hz':Ow w (q.aK z) ((l.drop (i * p.size)).take p.size) f1:=by
  rw[aL.bX,aL.mn hz];exact iT m1 a6t
 have Pf:Ow w (p.aK y) ((l.drop (i * p.size)).take p.size) []:=by
  rw[aL.bX,aL.mn hy];refine Ii m1 λ u hu=>?_;have:u.τ∈p.nk:=by rw[<-aL.jd p (xs.getD i (Ty.zero (.st p)))];exact b0P.2 ⟨u,hu,rfl⟩
  exact b1u.1 yA _ this
 have hr:=m2 w (p.aK y) _ [] (λ _ _=>rfl) sC Pf;rw[a0l,b1E] at hr;have dh:=h.aR.nd id _ xs aU;rw[Ph,b1q,hf] at dh;obtain⟨CG,dh⟩:=dh;have b0D:=dh;rw[b1e,b1e] at dh;obtain⟨⟨d0,d1,d01⟩,d2,a4L⟩:=dh;have UZ:ij w (G.η id) (.st p) (xs.set i y) (b::(f0++f2)):=by
  refine⟨_,l,a0,cap,eY,by rw[hn,b1P],by rw[b1P];exact CI.2.1,CI.2.2.1,by rw[b1P];exact CI.2.2.2, .inr ⟨b,f0++f2,t,e1,rfl,hh,CI.1,?_⟩⟩;rw[b4z];exact hr
 have wa:∀ k∈b::(f0++f2),k∈G.φ id:=λ k hk=>by
  rw[Ph,hf];simp only[b0X,b0K] at hk ⊢;rcases hk with hk|hk|hk<;>simp[hk]
 have a8U:(b::(f0++f2)).Nodup:=by
  refine b1q.2 ⟨λ hk=>CG ?_,dR d0 d2 λ x hx uu=>a4L x (by simp[hx]) x uu rfl⟩;simp only[b0K] at hk ⊢;rcases hk with hk|hk<;>simp[hk]
 have hf1:∀ k∈f1,k∈G.φ id/\k∉b::(f0++f2):=λ k hk=>by
  refine⟨by rw[Ph,hf];simp[hk],λ hm=>?_⟩;simp only[b0X,b0K] at hm;rcases hm with rfl|hm|hm
  .exact CG (by simp[hk])
  .exact d01 k hm k hk rfl
  .exact a4L k (by simp[hk]) k hm rfl
 obtain⟨g1,g2,g3⟩:=h.cm;have RR:s.cm.ai id=some (.aE (.st p) xs):=by rw[jk];simp[aU,aB.cT]
 let A:List (Nat×TE):=[(id,(G.η id,b::(f0++f2), .aE (.st p) (xs.set i y)))];have T:=E1.ofList (c:=c) (G:=G) (lk:=s.cm.ai) (w:=w) (w':=w) (A:=A) (λ e he=>by
  simp only[A,b0Z] at he;subst he;exact⟨_,xs,_,_,l,l,RR,rfl,eY,eY,UZ,a8U⟩) (λ e he k hk=>by
  simp only[A,b0Z] at he;subst he;exact .inl ⟨_,b0Z.2 rfl,wa k hk⟩) (λ e he e' yw _ _ _=>by
  simp only[A,b0Z] at he yw;rw[he,yw]) (by simp[A]) (λ _ _ _=>rfl) rfl rfl rfl (b1d _)
 have hI:=bh.eI g1 T g2 g3;have bW:(s.cm.fQ id (.st p) (xs.set i y)).ai=Wc A s.cm.ai:=by
  funext j;rw[jE,Qy]
 refine⟨⟨G.S,DN A G,wY A G⟩,f1,b,e1,?_,sC,?_,hz',d1,?_⟩
 .have:=(bo.of_heap hh).part (i * p.size) p.size;rwa [b2l] at this
 .unfold Inv;rw[bW];exact hI
 .intro k hk;obtain⟨k1,k2⟩:=hf1 k hk;obtain⟨q1,q2,q3,q4⟩:=g1.aR.pl id _ xs k RR k1;refine⟨q1,q2,q3,λ j o hj lX=>?_,λ j τ ys hj lX=>?_⟩
  .have lX:dw (DN A G j)=some k:=lX;rw[jE] at hj;by_cases rD:j=id
   .subst rD;have:DN A G j=G.η j:=by simp[DN,A,ai]
    rw[this,eY] at lX;cases lX
   .rw[b0N rD] at hj;have:DN A G j=G.η j:=by
     have dD:Nat.beq id j=false:=by
      cases hb:Nat.beq id j with
      | false=>rfl
      | true=>exact absurd (b0L hb).symm rD
     simp[DN,A,ai,dD]
    rw[this] at lX;exact q4 j o hj lX
  .have lX:k∈wY A G j:=lX;rw[jE] at hj;by_cases rD:j=id
   .subst rD;have:wY A G j=b::(f0++f2):=by simp[wY,A,ai]
    rw[this] at lX;exact k2 lX
   .rw[b0N rD] at hj;have:wY A G j=G.φ j:=by
     have dD:Nat.beq id j=false:=by
      cases hb:Nat.beq id j with
      | false=>rfl
      | true=>exact absurd (b0L hb).symm rD
     simp[wY,A,ai,dD]
    rw[this] at lX;exact rD (g1.aR.ap j id _ _ _ _ k hj RR lX k1)
theorem WK(hE:bp c.P c.E)(h:Inv c G s a w){o:Oper}{vc:Vc}{s':aj}(hq:SI c.E s o=some (vc,s'))(dY:vc.ok){Q:Exit->Act->World->Prop} :
  o.wp c.P a w (λ a' w'=>∃ G',Inv c G' s' a' w') Q:=by
 unfold SI at hq;split at hq;case h_2=>cases hq
 case h_1 d hd =>
 split at hq;case h_2=>cases hq
 case h_1 dM =>
 split at hq;case h_4=>cases hq
 case h_1 T len parts bl =>
  split at hq;case h_2=>cases hq
  case h_1 τ p hT =>
  obtain⟨b,e⟩:=p;split at hq;case h_2=>cases hq
  case h_1 hlen =>
  split at hq;case h_2=>cases hq
  case h_1 xs ids kq =>
  split at hq;case h_2=>cases hq
  case h_1 hb py =>
  simp only[b0J,b0M] at hq;obtain⟨rfl,rfl⟩:=hq;simp only[b0U] at hlen;have MH:=b0L hlen.1;have hl2:=b1N hlen.2;subst MH;obtain⟨h1,⟨b',e',h2⟩,i,z,h3,h4,h5,h6,h7⟩:=hE.slice hT;have CO:=τ.size_pos;have IQ:τ.size<=100:=Ty.size_le τ;have a8D:parts.size * τ.size<=16777216:=b2c (Nat.mul_le_mul hl2 IQ) (by decide);obtain⟨r,fp,h8,h9,h10,h11,h12⟩:=Ml (place:=λ i=>some (i * τ.size,τ.size)) h (λ _=>rfl) (l:=((Array.range (parts.size * τ.size)).map (λ j=>((if parts.size * τ.size=0 then #[] else z.cells:Array Value)[j % (if parts.size * τ.size=0 then #[] else z.cells:Array Value).size]!))).toList) kq (aN.yX (aY h) _) (de hb) (by simp);have rE:=Qw kq;simp only[b1F,b1K] at rE;rw[rE] at h10;simp only[b3V,b2T,b1v,b1M] at h8;have cE:(execOp a.eval o).run c.P w = .ok (.value (.slice (some ⟨w.heap.size,0,none⟩) parts.size parts.size)) (w.alloc (.cells r.toArray e)):=by
   have e2:(parts.map λ (i,x)=>(i,a.eval x)).toList=parts.toList.map λ p=>(p.1,a.eval p.2):=by simp
   have iF:¬ (parts.size * τ.size>2 ^ 24):=by omega
   simp only[execOp,bl,Instr.buildSlice,b1j,b1A h1,b1c,hE.sizeOf h2,b0N iF,b1k];by_cases h0:parts.size * τ.size=0
   .simp only[h0,b2G,b1j,b1k,b1c,e2] at h8 ⊢;rw[h8];simp[newRow]
   .simp only[h0,b3H,b1j,zeroValue,typeInfo,run_program,b1c,h3,h6,b1k,e2] at h8 ⊢;rw[h8];simp[newRow]
  unfold Oper.wp;rw[cE];show ∃ G',Inv c G' _ (a.put o.dst _) _;rw[hd];have bz:∀ k∈fp,k<w.heap.size:=λ k hk=>Tx h (h12 k hk);have fB:bN (w.alloc (.cells r.toArray e)) (xs.map τ.aK) r fp:=bN.aM _ h9 λ k hk=>heap_alloc_old w _ k (bz k hk);refine Inv.built h (zs:=xs) (fp:=w.heap.size::fp) (l:=r) ((fg w _).a2r λ _ k=>k.elim) ⟨_,_,some ⟨w.heap.size,0,none⟩,parts.size,rfl,by rw[rE],by rw[rE];omega,by simp only[maxLen];omega,by rw[rE];omega, .inr ⟨w.heap.size,fp,e,rfl,rfl,heap_alloc_new w _,h10,fB⟩⟩ ⟨_,_,_,rfl⟩ (List.nodup_cons.2 ⟨λ hh=>Nat.lt_irrefl _ (bz _ hh),h11⟩) (λ k hk=>?_) py;rcases List.mem_cons.1 hk with rfl|hk
  .exact .inr ⟨b1d _,by simp⟩
  .exact .inl (h12 k hk)
 case h_2 T ad bl =>
  split at hq;case h_2=>cases hq
  case h_1 q r id i sz hT hx =>
  split at hq;case h_2=>cases hq
  case h_1 p xs aU =>
  split at hq;case h_2=>cases hq
  case h_1 y z hb hy hz =>
  split at hq;case h_2=>cases hq
  case h_1 EN =>
  simp only[b0J,b0M] at hq;obtain⟨rfl,rfl⟩:=hq;simp only[b0U] at hb EN;have cj:=b0L hb.1;subst cj;have hp:=aY h ad;rw[hx] at hp;obtain⟨_,b,n,cap,l,eY,hi,hp⟩:=hp;obtain⟨G1,f1,b',e1,lY,hlen,hI,hO,dh,hF⟩:=h.a6H aU hy hz hb.2 dY eY hi;simp only[b0J,b2E,b1i] at e1;subst e1;have hqs:q.size=p.size:=by
   have e:=Ow.length _ hO;rw[show (q.aK z).size=q.size from Ty.cz (.st q) z] at e;omega
  have cE:(execOp a.eval o).run c.P w = .ok (.value (.agg ((l.drop (i * p.size)).take p.size).toArray)) w:=by
   simp only[execOp,bl,hp,b2L,b1j,gY hE hT lY (by rw[hlen];exact hqs.symm),b1c,b1k];rfl
  unfold Oper.wp;rw[cE];show ∃ G',Inv c G' _ (a.put o.dst _) _;rw[hd];have rB:∀ e∈bP (bJ d) (TV.cells ⟨.st q,z⟩),(s.cm.fQ id (.st p) (xs.set i y)).ai e.1=none:=λ e he=>by
   have h0:(s.ai e.1).isNone=true:=b1u.1 EN.1 e he;have dD:e.1≠id:=λ hh=>by rw[hh,aU] at h0;cases h0
   rw[jE,b0N dD,jk];show Option.map aB.cT (s.ai e.1)=none;cases hl:s.ai e.1 with
   | none=>rfl
   | some o=>rw[hl] at h0;cases h0
  obtain⟨G2,lk',k1,k2,k3,k4,_⟩:=bh.Nr (v:=⟨.st q,z⟩) (id:=bJ d) hI ⟨_,rfl,hO⟩ dh hF rB (de EN.2) (λ j hj=>by
   cases hr:c.R j with
   | none=>rfl
   | some v=>have:=h.fP j v hr;unfold bJ at hj;omega)
  refine⟨G2,?_⟩;have bW:aj.ai { aC:=s.cm.aC.set d (iw (bJ d) ⟨.st q,z⟩),aJ:=bP (bJ d) (q.cells z)++(s.cm.fQ id (.st p) (xs.set i y)).aJ }=lk':=by
   funext j;rw[k1 j];exact nt _ _ j
  unfold Inv;rw[bW,show aj.sl { aC:=s.cm.aC.set d (iw (bJ d) ⟨.st q,z⟩),aJ:=bP (bJ d) (q.cells z)++(s.cm.fQ id (.st p) (xs.set i y)).aJ }=iY s.cm.aC.length s.cm.sl (some d) (iw (bJ d) ⟨.st q,z⟩) from oB s.cm.aC d _ _,
   show ({ aC:=s.cm.aC.set d (iw (bJ d) ⟨.st q,z⟩),aJ:=bP (bJ d) (q.cells z)++(s.cm.fQ id (.st p) (xs.set i y)).aJ }:aj).aC.length=s.cm.aC.length from by simp]
  exact bh.put k2 k4.fE
 case h_3 cl bl =>
  split at hq;case h_3=>cases hq
  case h_2 f fN =>
   split at hq;case h_1=>cases hq
   case h_2 fl _ _ =>
   split at hq;case h_2=>cases hq
   case h_1 own ids ht =>
   split at hq;case h_2=>cases hq
   case h_1 Z9 hb has =>
   split at hq;case h_2=>cases hq
   case h_1 pre res hc =>
   split at hq;case h_2=>cases hq
   case h_1 EN =>
   simp only[Option.some.injEq,Prod.mk.injEq] at hq;obtain⟨rfl,rfl⟩:=hq;simp only[Bool.and_eq_true,List.all_eq_true] at EN;have rB:∀ p∈bj (bJ d) res,(ids.foldl aj.gone s).ai p.1=none:=λ p hp=>by simpa using EN.1 p hp
   have oP:=de EN.2;obtain⟨px,jL⟩:=hE.Jg f Z9 pre res hc dY;obtain⟨xq,t1,t2,t3,t4⟩:=u7 h ht (de hb) (aN.jl (aY h) _);have h1:Inv c G (ids.foldl aj.gone s) a w:=uc ids h;have hF:∀ b,b∈xq.flatten->sM c G (ids.foldl aj.gone s).ai w b:=λ b hb=>Iu h (t4 b hb);obtain⟨m1,m2⟩:=rO hE h1 has t1 t2 (aN.jl (aY h1) _);generalize Xj:ids.foldl aj.gone s=s1 at *
   unfold Oper.wp;rw[gA bl fN rfl px];simp only[Oper.upon];refine (jL w (SX G s1.ai) _ xq.flatten ?_ m1 (.inr m2) t3 (λ b hb=>⟨(hF b hb).2.2.1,(hF b hb).a4f⟩)).mono ?_
   .exact h1.V9
   .rintro e w' ⟨x,fp,rfl,hk,hO,dh,lZ⟩;have hI:=Inv.over h1 hF hk;obtain⟨ys,rz,Pd⟩:=Ht (c:=c) (id:=bJ d) hO;have ZR:Fr c G s1.ai w' fp:=λ b hb=>by
     rcases lZ b hb with hi|⟨q1,q2⟩
     .obtain⟨f1,f2,f3,f4,f5⟩:=hF b hi;exact⟨f1,f2,b0V f3 hk.size,f4,f5⟩
     .refine⟨.inl (b2c h1.aM.size q1),λ hs=>?_,q2,λ i o' hi rA=>?_,λ j τ zs hj lX=>?_⟩
      .have:=h1.dE b hs;omega
      .have:=(h1.place i o' b hi rA).2.2;omega
      .have:=(h1.aR.pl j τ zs b hj lX).2.2.1;omega
    obtain⟨G',lk',k1,k2,k3,k4,_⟩:=hI.HP (id:=bJ d) rz dh ZR rB oP (λ j hj=>by
     cases hr:c.R j with
     | none=>rfl
     | some v=>have:=h.fP j v hr;unfold bJ at hj;omega)
    refine⟨G',?_⟩;have bW:aj.ai { aC:=s1.aC.set d (jm (bJ d) res),aJ:=bj (bJ d) res++s1.aJ }=lk':=by
     funext i;rw[k1 i];exact nt _ _ i
    unfold Inv;rw[bW,hd,show aj.sl { aC:=s1.aC.set d (jm (bJ d) res),aJ:=bj (bJ d) res++s1.aJ }=iY s1.aC.length s1.sl (some d) (jm (bJ d) res) from oB s1.aC d _ _,
     show ({ aC:=s1.aC.set d (jm (bJ d) res),aJ:=bj (bJ d) res++s1.aJ }:aj).aC.length=s1.aC.length from by simp]
    exact bh.put k2 (Pd G' lk' k4)
  case h_1 fN =>
  split at hq;case h_2=>cases hq
  case h_1 T T' OV =>
  split at hq;case h_2=>cases hq
  case h_1 τ b e OU hT =>
  have OU:=b0L OU;subst OU;split at hq;case h_2=>cases hq
  case h_1 x y dP =>
  split at hq;case h_2=>cases hq
  case h_1 xs i ys j hx hy =>
  split at hq;case h_2=>cases hq
  case h_1 hb py =>
  simp only[b0J,b0M] at hq;obtain⟨rfl,rfl⟩:=hq;obtain⟨v,z,e1,e2,e3⟩:=a3x h dP;have hb:=de hb;rw[b1e] at hb;obtain⟨n1,n2,n3⟩:=hb;obtain⟨fx,o1,o2,o3⟩:=a3n h hx e2;obtain⟨fy,p1,p2,p3⟩:=a3n h hy e3;obtain⟨v',w',fp,l,k1,k2,k3,k4,k5,k6⟩:=Sw (c:=c) (w:=w) hE hT o1 p1 (λ k hk=>Tx h (o3 k hk)) (λ k hk=>Tx h (p3 k hk)) o2 p2
   (λ k hk eX=>h.hU (o3 k hk) (p3 k eX) λ x hx y hy=>n3 x hx y hy) dY o.type
  have II:cl.argTypes = #[T,T]:=by rw[<-b1M (xs:=cl.argTypes),OV]
  have CS:cl.args.map a.eval = #[v,z]:=by rw[<-b1M (xs:=cl.args.map a.eval),b2J,e1]
  have O2:(execOp a.eval o)=(do let d <-resolve a.eval cl o.type;invoke d.target d.args):=by simp[execOp,bl]
  have IM:(execOp a.eval o).run c.P w=((Builtin.append_ #[T,T] o.type #[v,z]).run c.P w).andThen λ v w => .ok (.value v) w:=by
   rw[O2];simp[resolve,fN,invoke,builtin,II,CS]
  unfold Oper.wp;rw[IM,k1];show ∃ G',Inv c G' _ (a.put o.dst _) _;rw[hd];refine Inv.built h (zs:=xs++ys) (fp:=fp) (l:=l) (k6.a2r λ k hk=>(o3 k hk).mono λ i hi=>by simp[hi]) k2 k3 k4 (λ k hk=>?_) py;rcases k5 k hk with hk|hk|hk
  .exact .inl ((o3 k hk).mono λ i hi=>by simp[hi])
  .exact .inl ((p3 k hk).mono λ i hi=>by simp[hi])
  .exact .inr hk
end
def a6W:Value->Nat
 | .pointer (some a)=>a.block
 | _=>0
def ju(G:Gh)(m:List (Nat×Nat))(k:Nat):Nat:=match ai m k with
 | some id=>a6W (G.η id)
 | none=>0
def jQ(m m':List (Nat×Nat)):Prop:=∀ k id,ai m k=some id->ai m' k=some id
theorem jQ.refl(m:List (Nat×Nat)):jQ m m:=λ _ _ h=>h
theorem jQ.trans{a b c:List (Nat×Nat)}(h:jQ a b)(k:jQ b c):jQ a c:=λ i id q=>k i id (h i id q)
theorem nu{α:Type}(k:Nat)(o:α)(l:List (Nat×α))(j:Nat):ai ((k,o)::l) j=if j=k then some o else ai l j:=by
 have e:ai ((k,o)::l) j=match Nat.beq k j with
  | true=>some o
  | false=>ai l j:=rfl
 rw[e];cases hb:Nat.beq k j with
 | true=>rw[b0T (b0L hb).symm]
 | false=>rw[b0N (λ e=>by subst e;rw[Nat.beq_refl] at hb;cases hb)]
theorem OD{m:List (Nat×Nat)}{k id:Nat}(h:ai m k=none):jQ m ((k,id)::m):=λ i j q=>by
 rw[nu];by_cases hi:i=k
 .subst hi;rw[h] at q;cases q
 .rw[b0N hi];exact q
theorem PD{m:List (Nat×Nat)}{k id:Nat}:ai ((k,id)::m) k=some id:=by rw[nu,b0T rfl]
section
variable {c:Ctx} {G:Gh} {s:aj} {a:Act} {w w':World}
theorem a0I{lk:Nat->Option aB}{τ:Ty}{v:AV}{x:Value}{y:τ.den}(h:iR (λ _=>none) τ v=some y)(hv:C1 c G lk w v x):Rd w G.S (τ.aK y) [x]:=Nu h hv
theorem mI{sl:Nat->AV}{n:Nat}{lk:Nat->Option aB}(h:bh c G sl n lk a w):∀ {ks:List CK} {cs:List AV} {m m':List (Nat×Nat)} {ds:List TV} {ids:List Nat} {l:List Value},cR lk ks cs m=some (ds,ids,m')->ids.Nodup->aN (C1 c G lk w) cs l ->
  jQ m m'/\∃ fp,(∀ mf,jQ m' mf->ig w G.S (ju G mf) ks ds l fp)/\fp.Nodup/\∀ b∈fp,tB G lk ids b
 | [],[],m,m',ds,ids,l,ht,_,hv=>by
  simp only[cR,b0J,b0M] at ht;obtain⟨rfl,rfl,rfl⟩:=ht;match l,hv with
  | [],_=>exact⟨jQ.refl _,[],λ _ _=>rfl,b1V,by simp⟩
 | .d τ::ks,v::cs,m,m',ds,ids,l,ht,hn,hv=>by
  simp only[cR] at ht;split at ht;case h_2=>cases ht
  case h_1 y hy AS =>
  split at ht;case h_2=>cases ht
  case h_1 ds1 Vi m1 hr =>
  simp only[b0J,b0M] at ht;obtain⟨rfl,rfl,rfl⟩:=ht;match l,hv with
  | x::l,hv =>
   obtain⟨e1,fp,e2,e3,e4⟩:=mI h hr hn hv.2;exact⟨e1,fp,λ mf hm=>⟨⟨rfl,AS,a0I hy hv.1⟩,e2 mf hm⟩,e3,e4⟩
 | .o τ::ks,v::cs,m,m',ds,ids,l,ht,hn,hv=>by
  simp only[cR] at ht;split at ht;case h_2=>cases ht
  case h_1 y i hy AS =>
  split at ht;case h_2=>cases ht
  case h_1 ds1 Vi m1 hr =>
  simp only[b0J,b0M] at ht;obtain⟨rfl,rfl,rfl⟩:=ht;rw[b1e] at hn;obtain⟨n1,n2,n3⟩:=hn;match l,hv with
  | x::l,hv =>
   obtain⟨e1,fp,e2,e3,e4⟩:=mI h hr n2 hv.2;obtain⟨f1,o1,o2,o3⟩:=wX h hy hv.1;refine⟨e1,f1++fp,λ mf hm=>⟨f1,fp,rfl,⟨rfl,AS,o1⟩,e2 mf hm⟩,dR o2 e3 λ b hb cv=>h.hU (o3 b hb) (e4 b cv) λ x hx y hy=>n3 x hx y hy,λ b hb=>?_⟩;rcases b0K.1 hb with hb|hb
   .exact (o3 b hb).mono λ k hk=>by simp[hk]
   .exact (e4 b hb).mono λ k hk=>by simp[hk]
 | .p j::ks,v::cs,m,m',ds,ids,l,ht,hn,hv=>by
  simp only[cR] at ht;split at ht;case h_2=>cases ht
  case h_1 id =>
  match l,hv with
  | x::l,hv =>
   have key:∀ m1,cR lk ks cs m1=some (ds,ids,m')->jQ m m1->ai m1 j=some id->jQ m m'/\∃ fp,(∀ mf,jQ m' mf->ig w G.S (ju G mf) (.p j::ks) ds (x::l) fp)/\fp.Nodup/\∀ b∈fp,tB G lk ids b:=λ m1 hr hx hj=>by
    obtain⟨e1,fp,e2,e3,e4⟩:=mI h hr hn hv.2;refine⟨hx.trans e1,fp,λ mf hm=>?_,e3,e4⟩;have hv1:C1 c G lk w (.ptr id 0) x:=hv.1;obtain⟨b,h1,h2,_⟩:=hv1;have:ju G mf j=b:=by
     simp only[ju,hm j id (e1 j id hj),h1];rfl
    cases ds with
    | nil=>exact⟨by rw[this];exact h2,e2 mf hm⟩
    | cons d ds=>exact⟨by rw[this];exact h2,e2 mf hm⟩
   split at ht
   .rename_i i hi;split at ht
    .rename_i hb;have hb:=b0L hb;subst hb;exact key m ht (jQ.refl _) hi
    .cases ht
   .rename_i iF;exact key _ ht (OD iF) PD
 | [],_::_,_,_,_,_,_,ht,_,_=>by simp[cR] at ht
 | .d _::_,[],_,_,_,_,_,ht,_,_=>by simp[cR] at ht
 | .o _::_,[],_,_,_,_,_,ht,_,_=>by simp[cR] at ht
 | .p _::_,[],_,_,_,_,_,ht,_,_=>by simp[cR] at ht
def a5O(lk:Nat->Option aB)(m:List (Nat×Nat))(k0 n:Nat):Prop:=∀ k,k0<=k->k<k0+n->∃ id cs,ai m k=some id/\lk id=some (.box cs)
theorem rZ{sl:Nat->AV}{n:Nat}{lk:Nat->Option aB}(h:bh c G sl n lk a w):∀ {sh:List (List CK)} {k:Nat} {m m':List (Nat×Nat)} {bB:List (List TV)} {ids:List Nat},ic lk sh k m=some (bB,ids,m')->ids.Nodup ->
  jQ m m'/\a5O lk m' k sh.length/\∃ fp,(∀ mf,jQ m' mf->fe w G.S (ju G mf) k sh bB fp)/\fp.Nodup/\∀ b∈fp,tB G lk ids b
 | [],k,m,m',bB,ids,ht,_=>by
  simp only[ic,b0J,b0M] at ht;obtain⟨rfl,rfl,rfl⟩:=ht;exact⟨jQ.refl _,λ j h1 h2=>by simp at h2;omega,[],λ _ _=>rfl,b1V,by simp⟩
 | ks::sh,k,m,m',bB,ids,ht,hn=>by
  simp only[ic] at ht;split at ht;case h_2=>cases ht
  case h_1 id aU =>
  split at ht;case h_2=>cases ht
  case h_1 cs iP =>
  split at ht;case h_2=>cases ht
  case h_1 ds i m1 hr =>
  split at ht;case h_2=>cases ht
  case h_1 a8h Vi m2 vG =>
  simp only[b0J,b0M] at ht;obtain⟨rfl,rfl,rfl⟩:=ht;rw[b1e] at hn;obtain⟨n1,n2,n3⟩:=hn;obtain⟨b,l,t,q1,q2,q3⟩:=h.aJ id _ iP;obtain⟨e1,f1,e2,e3,e4⟩:=mI h hr n1 q3;obtain⟨g1,g0,f2,g2,g3,g4⟩:=rZ h vG n2;refine⟨e1.trans g1,λ j h1 h2=>?_,f1++f2,λ mf hm=>⟨l,t,f1,f2,rfl,?_,e2 mf (g1.trans hm),g2 mf hm⟩,dR e3 g3 λ b hb cv=>h.hU (e4 b hb) (g4 b cv) λ x hx y hy=>n3 x hx y hy,λ b hb=>?_⟩
  .by_cases hj:j=k
   .subst hj;exact⟨id,cs,(e1.trans g1) j id aU,iP⟩
   .exact g0 j (by omega) (by simp at h2;omega)
  .have:ju G mf k=b:=by
    simp only[ju,hm k id ((e1.trans g1) k id aU),q1];rfl
   rw[this];exact q2
  .rcases b0K.1 hb with hb|hb
   .exact (e4 b hb).mono λ k hk=>by simp[hk]
   .exact (g4 b hb).mono λ k hk=>by simp[hk]
theorem tJ:∀ {fl:List (Option Nat)} {vs:List AV} {m m':List (Nat×Nat)},iA fl vs m=some m'->jQ m m'/\∀ (i k:Nat),fl[i]?=some (some k)->∃ id,vs[i]?=some (AV.ptr id 0)/\ai m' k=some id
 | [],[],m,m',h=>by
  simp only[iA,b0J] at h;subst h;exact⟨jQ.refl _,λ i k q=>by simp at q⟩
 | none::fl,v::vs,m,m',h=>by
  obtain⟨h1,h2⟩:=tJ (fl:=fl) (vs:=vs) h;refine⟨h1,λ i k q=>?_⟩;cases i with
  | zero=>simp at q
  | succ i=>exact h2 i k (by simpa using q)
 | some k::fl,v::vs,m,m',h=>by
  simp only[iA] at h;split at h;case h_2=>cases h
  case h_1 id =>
  have key:∀ m1,jQ m m1->ai m1 k=some id->iA fl vs m1=some m'->jQ m m'/\∀ (i k':Nat),(some k::fl)[i]?=some (some k')->∃ dt,(AV.ptr id 0::vs)[i]?=some (AV.ptr dt 0)/\ai m' k'=some dt:=λ m1 e1 e2 e3=>by
   obtain⟨h1,h2⟩:=tJ e3;refine⟨e1.trans h1,λ i k' q=>?_⟩;cases i with
   | zero =>
    simp only[b3L,b0J] at q;subst q;exact⟨id,rfl,h1 k id e2⟩
   | succ i=>exact h2 i k' (by simpa using q)
  split at h
  .rename_i i hi;split at h
   .rename_i hb;have hb:=b0L hb;subst hb;exact key m (jQ.refl _) hi h
   .cases h
  .rename_i iF;exact key _ (OD iF) PD h
 | [],_::_,_,_,h=>by simp[iA] at h
 | some _::_,[],_,_,h=>by simp[iA] at h
 | none::_,[],_,_,h=>by simp[iA] at h
theorem ti{lk:Nat->Option aB}{ids:List Nat}{id:Nat}{o:aB}(h:TP lk ids id=some o):lk id=some o/\id∉ids/\∃ cs,o = .box cs:=by
 unfold TP at h;split at h
 .cases h
 .rename_i hc;split at h
  .rename_i cs iP;simp only[Option.some.injEq] at h;subst h;exact⟨iP,by simpa using hc,cs,rfl⟩
  .cases h
theorem ZM{S S':Nat->Prop}{τ:Ty}{y:τ.den}{x:Value}(hf:(match CK.d τ with | .d (.slice _)=>false | .d (.mv _)=>false|_=>true)=true)(ha:τ.agg=false)(h:Rd w S (τ.aK y) [x]):Rd w S' (τ.aK y) [x]:=by
 cases τ with
 | slice t=>cases hf
 | mv t=>cases hf
 | st s=>cases ha
 | _=>exact h
theorem ig.flat{S S':Nat->Prop}{B:Nat->Nat}:∀ {ks:List CK} {ds:List TV} {l:List Value} {fp:List Nat},(ks.all λ k=>match k with | .d (.slice _)=>false | .d (.mv _)=>false|_=>true)=true->ig w S B ks ds l fp->ig w S' B ks ds l fp:=by
 intro ks;induction ks with
 | nil=>intro ds l fp _ h;cases ds<;>cases l<;>exact h
 | cons k0 ks ih =>
  intro ds l fp hf h;rw[List.all_cons,b0U] at hf;cases l with
  | nil=>cases k0<;>cases ds<;>cases h
  | cons x l =>
   cases k0 with
   | d τ =>
    cases ds with
    | nil=>cases h
    | cons v ds =>
     obtain⟨⟨e,h1,h2⟩,h3⟩:=h;refine⟨⟨e,h1,?_⟩,ih hf.2 h3⟩;obtain⟨aW,y⟩:=v;simp only at e;subst e;exact ZM hf.1 h1 h2
   | o τ =>
    cases ds with
    | nil=>cases h
    | cons v ds =>
     obtain⟨f1,f2,e,h1,h2⟩:=h;exact⟨f1,f2,e,h1,ih hf.2 h2⟩
   | p j =>
    have h:x = .pointer (some ⟨B j,0,none⟩)/\ig w S B ks ds l fp:=by cases ds<;>exact h
    have r:=ih hf.2 h.2;cases ds<;>exact⟨h.1,r⟩
theorem fe.flat{S S':Nat->Prop}{B:Nat->Nat}:∀ {sh:List (List CK)} {k:Nat} {bB:List (List TV)} {fa:List Nat},Iq sh=true->fe w S B k sh bB fa->fe w S' B k sh bB fa
 | [],k,bB,fa,_,h=>by cases bB<;>exact h
 | ks::sh,k,[],fa,_,h=>h.elim
 | ks::sh,k,ds::bB,fa,hf,h=>by
  obtain⟨l,t,f1,f2,e,h1,h2,h3⟩:=h;unfold Iq at hf;rw[List.all_cons,Bool.and_eq_true] at hf;exact⟨l,t,f1,f2,e,h1,h2.flat hf.1,fe.flat hf.2 h3⟩
theorem HK.more{P:Program}{f:FuncId}{sh:List (List CK)}{args:List Arg}{bB:List (List TV)}{res:List TV}{dF:List (List TV)}(h:HK P f sh args bB res dF)(QT:Iq sh=true){S T:Nat->Prop}{B:Nat->Nat}{bO:List Value}{fa:List Nat}(hT:iZ w T)(hST:∀ b,S b->T b)
  (hX:∀ b,BX sh.length B fa b->¬ T b) (OQ:fe w S B 0 sh bB fa) (LW:fa.Nodup) (zX:∀ b∈fa,b<w.heap.size/\¬ S b/\∀ k,k<sh.length->B k≠b) (hB:∀ k,k<sh.length->B k<w.heap.size/\¬ S (B k))
  (AU:∀ j k,j<sh.length->k<sh.length->B j=B k->j=k) (ha:aN (Lp P w T (BX sh.length B fa) B) args bO):Su P f sh res dF w S B bO fa:=by
 refine (h w T B bO fa hT (OQ.flat QT) LW (λ b hb=>⟨(zX b hb).1,hX b (.inl hb),(zX b hb).2.2⟩) (λ k hk=>⟨(hB k hk).1,hX _ (.inr ⟨k,hk,rfl⟩)⟩) AU ha).mono ?_;rintro e w' ⟨x,S',fp,Gu,rfl,hk,OT,ZU,MC,hO,hB',dh,lZ,hBS⟩;refine⟨x,λ b=>S' b/\(T b->S b),fp,Gu,rfl,hk,λ b hb=>⟨OT b (hST b hb),λ _=>hb⟩,λ b hb=>ZU b hb.1,λ b hb hx=>?_,hO,hB'.flat QT,dh,λ b hb=>⟨(lZ b hb).1,λ q=>(lZ b hb).2.1 q.1,(lZ b hb).2.2⟩,λ k hk q=>hBS k hk q.1⟩;have:=MC b hb hx;exact⟨λ q=>q.2 (this.1 q.1),λ q=>⟨this.2 (hST b q),λ _=>q⟩⟩
theorem Jw{sh:List (List CK)}{lk:Nat->Option aB}{ids:List Nat}{id:Nat}{o:aB}(h:sLk sh lk ids id=some o):lk id=some o/\id∉ids:=by
 unfold sLk at h;split at h
 .split at h
  .cases h
  .rename_i hc;exact⟨h,by simpa using hc⟩
 .obtain⟨h1,h2,_⟩:=ti h;exact⟨h1,h2⟩
theorem P6(h1:Inv c G s a w){S1 X:Nat->Prop}{lk':Nat->Option aB}(bW:∀ id o,lk' id=some o->s.ai id=some o)(fv:∀ (τ:Ty) v x (y:τ.den),sO lk' τ v=some y->VR c G s.ai w v x->dI w S1 ⟨τ,y⟩ x)
  (sB:∀ b,X b->¬ St c G.S b) (kp:∀ id o b,lk' id=some o->dw (G.η id)=some b->¬ X b) {τ:Ty} {v:AV} {x:Value} {y:τ.den} (hy:deref lk' τ v=some y) (hx:VR c G s.ai w v x) :
  ∃ b o cs,x = .pointer (some ⟨b,o,none⟩)/\b<w.heap.size/\¬ X b/\bo w b o cs/\Rd w S1 (τ.aK y) cs:=by
 obtain⟨b,o,cs,k1,k2,k3,k4⟩:=Co (S:=S1) h1 bW fv hy hx;refine⟨b,o,cs,k1,k2,?_,k3,k4⟩;unfold deref at hy;split at hy;case h_2=>cases hy
 case h_1 u hu =>
 cases v with
 | cU z =>
  obtain⟨b',o',dC,q1,q2,_⟩:=hx;rw[k1] at q1;simp only[b3i,b0J,b2E] at q1;obtain⟨rfl,_⟩:=q1;exact λ hb=>sB _ hb q2
 | ptr id off =>
  obtain⟨b',q1,q2,_⟩:=hx;rw[k1] at q2;simp only[b3i,b0J,b2E] at q2;obtain⟨rfl,_⟩:=q2;simp only[pW] at hu;split at hu
  .rename_i UD iP;exact kp id _ _ iP (by rw[q1];rfl)
  .cases hu
 | ep id i off =>
  obtain⟨b',n',Om,e',aW,cK,q1,q2,q3,q4⟩:=hx;rw[k1] at q4;simp only[b3i,b0J,b2E] at q4;obtain⟨rfl,_⟩:=q4;simp only[pW] at hu;split at hu
  .rename_i hr;exact kp id _ _ hr (by rw[q1];rfl)
  .cases hu
 | _=>simp[pW] at hu
theorem Cj(h1:Inv c G s a w){S1 X:Nat->Prop}{lk':Nat->Option aB}(bW:∀ id o,lk' id=some o->s.ai id=some o)(fv:∀ (τ:Ty) v x (y:τ.den),sO lk' τ v=some y->VR c G s.ai w v x->dI w S1 ⟨τ,y⟩ x)
  (sB:∀ b,X b->¬ St c G.S b) (kp:∀ id o b,lk' id=some o->dw (G.η id)=some b->¬ X b):∀ {ks:List (Bool×Ty)} {vs:List AV} {Z9:List Arg} {xs:List Value},nN lk' ks vs=some Z9->aN (CR c G s.ai w) vs xs->aN (a4v w S1 X) Z9 xs
 | [],[],Z9,xs,h,hv=>by
  simp only[nN,b0J] at h;subst h;match xs,hv with
  | [],_=>trivial
 | (true,τ)::ks,v::vs,Z9,xs,h,hv=>by
  simp only[nN] at h;split at h
  .rename_i y hy;split at h
   .rename_i r hr;simp only[b0J] at h;subst h;match xs,hv with
    | x::xs,hv=>exact⟨P6 h1 bW fv sB kp hy hv.1.fE,Cj h1 bW fv sB kp hr hv.2⟩
   .cases h
  .cases h
 | (false,τ)::ks,v::vs,Z9,xs,h,hv=>by
  simp only[nN] at h;split at h
  .rename_i y hy;split at h
   .rename_i r hr;simp only[b0J] at h;subst h;match xs,hv with
    | x::xs,hv=>exact⟨fv _ _ _ _ hy hv.1.fE,Cj h1 bW fv sB kp hr hv.2⟩
   .cases h
  .cases h
 | [],_::_,_,_,h,_=>by cases h
 | (true,_)::_,[],_,_,h,_=>by cases h
 | (false,_)::_,[],_,_,h,_=>by cases h
theorem WM(hE:bp c.P c.E)(h1:Inv c G s a w){S1 X:Nat->Prop}(MD:∀ b,G.S b->S1 b){lk':Nat->Option aB}(bW:∀ id o,lk' id=some o->s.ai id=some o)(fv:∀ (τ:Ty) v x (y:τ.den),sO lk' τ v=some y->VR c G s.ai w v x->dI w S1 ⟨τ,y⟩ x)
  (sB:∀ b,X b->¬ St c G.S b) (kp:∀ id o b,lk' id=some o->dw (G.η id)=some b->¬ X b) {g:AV} {x:Value} {q:FV} {B:Nat->Nat} (h:zL c.E lk' g=some q) (hx:VR c G s.ai w g x):Lp c.P w S1 X B (.cP q) x:=by
 unfold zL at h;split at h
 .rename_i f cs;split at h
  .rename_i k _;split at h
   .rename_i Z9 has;simp only[b0J] at h;subst h;obtain⟨l,k1,k2⟩:=hx;exact⟨f,Z9,l,k1,tL hE _ _ _,Cj h1 bW fv sB kp has k2⟩
   .cases h
  .cases h
 .simp only[b0J] at h;subst h;obtain⟨f,ej,l,k1,k2,k3⟩:=hx;refine⟨f,ej,l,k1,k2,k3.imp λ u y _ hy=>?_⟩;cases u with
  | val v=>exact dI.mono (G:=G) (G':=⟨S1,G.η,G.φ⟩) hy MD (λ _ _=>rfl)
  | ref v =>
   obtain⟨b,o,cs,k1,k2,k3,k4⟩:=hy;refine⟨b,o,cs,k1,?_,λ hb=>sB b hb k2,k3,Rd.aM MD (λ _ _=>rfl) _ k4⟩;exact k2.elim (h1.dE b) λ k=>b0V k.1 h1.aM.size
  | fn f=>exact hy
  | _=>exact hy.elim
 .rename_i f;split at h
  .rename_i k _;split at h
   .simp only[b0J] at h;subst h;exact⟨f,[],[],hx,tL hE _ _ _,ag⟩
   .cases h
  .cases h
 .cases h
theorem qz(hE:bp c.P c.E)(h1:Inv c G s a w){mf:List (Nat×Nat)}{S1 X:Nat->Prop}(MD:∀ b,G.S b->S1 b){lk':Nat->Option aB}(bW:∀ id o,lk' id=some o->s.ai id=some o)
  (fv:∀ (τ:Ty) v x (y:τ.den),sO lk' τ v=some y->VR c G s.ai w v x->dI w S1 ⟨τ,y⟩ x) (sB:∀ b,X b->¬ St c G.S b) (kp:∀ id o b,lk' id=some o->dw (G.η id)=some b->¬ X b) {lk0:Nat->Option aB} :
  ∀ {fl:List (Option Nat)} {Ts:List TypeId} {vs Un:List AV} {xs:List Value} {Z9:List Arg},oA c.E lk' fl Ts vs=some Z9->aN (VR c G s.ai w) vs xs->aN (VR c G lk0 w) Un xs ->
   (∀ (i k:Nat),fl[i]?=some (some k)->∃ id,Un[i]?=some (AV.ptr id 0)/\ai mf k=some id)->aN (Lp c.P w S1 X (ju G mf)) Z9 xs
 | [],[],[],Un,xs,Z9,h,hv,_,_=>by
  simp only[oA,b0J] at h;subst h;match xs,hv with
  | [],_=>trivial
 | some k::fl,T::Ts,v::vs,Un,xs,Z9,h,hv,IU,hb=>by
  simp only[oA] at h;split at h;case h_2=>cases h
  case h_1 r hr =>
  simp only[b0J] at h;subst h;match xs,Un,hv,IU with
  | x::xs,v0::Un,hv,IU =>
   obtain⟨id,q1,q2⟩:=hb 0 k rfl;simp only[List.getElem?_cons_zero,Option.some.injEq] at q1;subst q1;have hp:VR c G lk0 w (.ptr id 0) x:=IU.1;obtain⟨b,k1,k2,_⟩:=hp;refine⟨?_,qz hE h1 MD bW fv sB kp hr hv.2 IU.2 λ i k' q=>by simpa using hb (i+1) k' (by simpa using q)⟩;show x = .pointer (some ⟨ju G mf k,0,none⟩);simp only[ju,q2,k1];exact k2
  | x::xs,[],_,IU=>exact IU.elim
 | none::fl,T::Ts,v::vs,Un,xs,Z9,h,hv,IU,hb=>by
  simp only[oA] at h;split at h;case h_2=>cases h
  case h_1 z hz =>
  split at h;case h_2=>cases h
  case h_1 r hr =>
  simp only[b0J] at h;subst h;match xs,Un,hv,IU with
  | x::xs,v0::Un,hv,IU =>
   refine⟨?_,qz hE h1 MD bW fv sB kp hr hv.2 IU.2 λ i k' q=>by simpa using hb (i+1) k' (by simpa using q)⟩;unfold N6 at hz;split at hz
   .rename_i τ q hT;split at hz
    .rename_i y hy;simp only[b0J] at hz;subst hz;exact fv _ _ _ _ hy hv.1
    .cases hz
   .split at hz
    .rename_i τ hT;split at hz
     .rename_i y hy;simp only[b0J] at hz;subst hz;exact P6 h1 bW fv sB kp hy hv.1
     .cases hz
    .split at hz
     .rename_i q hq;simp only[b0J] at hz;subst hz;exact WM hE h1 MD bW fv sB kp hq hv.1
     .split at hz
      .rename_i f;simp only[b0J] at hz;subst hz;exact hv.1
      .cases hz
  | x::xs,[],_,IU=>exact IU.elim
 | [],_::_,_,_,_,_,h,_,_,_=>by simp[oA] at h
 | [],[],_::_,_,_,_,h,_,_,_=>by simp[oA] at h
 | some _::_,[],_,_,_,_,h,_,_,_=>by simp[oA] at h
 | none::_,[],_,_,_,_,h,_,_,_=>by simp[oA] at h
 | some _::_,_::_,[],_,_,_,h,_,_,_=>by simp[oA] at h
 | none::_,_::_,[],_,_,_,h,_,_,_=>by simp[oA] at h
def dA:List CK->List TV->List TV
 | .d _::ks,_::ds=>dA ks ds
 | .o _::ks,v::ds=>v::dA ks ds
 | .p _::ks,ds=>dA ks ds
 | _,_=>[]
def jM:List CK->List Value->List Value
 | .o _::ks,x::xs=>x::jM ks xs
 | _::ks,_::xs=>jM ks xs
 | _,_=>[]
theorem ig.sL{S:Nat->Prop}{B:Nat->Nat}:∀ {ks:List CK} {ds:List TV} {l:List Value} {fp:List Nat},ig w S B ks ds l fp->cY w ((dA ks ds).map TV.aK) (jM ks l) fp/\(∀ u∈dA ks ds,u.τ.agg=false)/\(dA ks ds).length=(jM ks l).length
 | [],[],[],fp,h=>⟨⟨rfl,h⟩,by simp[dA],rfl⟩
 | .d τ::ks,v::ds,x::xs,fp,h=>by
  obtain⟨_,h2⟩:=h;obtain⟨k1,k2,k3⟩:=ig.sL h2;exact⟨k1,k2,k3⟩
 | .o τ::ks,v::ds,x::xs,fp,h=>by
  obtain⟨f1,f2,rfl,⟨e,h1,h2⟩,h3⟩:=h;obtain⟨k1,k2,k3⟩:=ig.sL h3;refine⟨⟨x,jM ks xs,f1,f2,rfl,rfl,h2,k1⟩,λ u hu=>?_,by simp[dA,jM,k3]⟩;rcases b0X.1 hu with rfl|hu
  .rw[e];exact h1
  .exact k2 u hu
 | .p j::ks,ds,x::xs,fp,h=>by
  have h:x = .pointer (some ⟨B j,0,none⟩)/\ig w S B ks ds xs fp:=by cases ds<;>exact h
  obtain⟨k1,k2,k3⟩:=ig.sL h.2;refine⟨?_,?_,?_⟩<;>cases ds<;>first|exact k1|exact k2|exact k3
 | [],_::_,_,_,h=>h.elim
 | [],[],_::_,_,h=>h.elim
 | .d _::_,[],_,_,h=>by cases h
 | .o _::_,[],_,_,h=>by cases h
 | .d _::_,_::_,[],_,h=>by cases h
 | .o _::_,_::_,[],_,h=>by cases h
 | .p _::_,ds,[],_,h=>by cases ds<;>cases h
theorem Bs:∀ (n:Nat) (a b:List TV),bP n (a++b)=bP n a++bP (n+a.length) b
 | n,[],b=>by simp[bP]
 | n,u::a,b=>by
  have:=Bs (n+1) a b;simp only[b1B,bP,this,b1o,b0W];rw[show n+1+a.length=n+(a.length+1) by omega]
theorem pL:∀ (n:Nat) (a b:List TV),ca n (a++b)=ca n a++ca (n+a.length) b
 | n,[],b=>by simp[ca]
 | n,u::a,b=>by
  have:=pL (n+1) a b;simp only[b1B,ca,this,b0W];rw[show n+1+a.length=n+(a.length+1) by omega]
theorem cY.append:∀ {a b:List D} {x y:List Value} {f g:List Nat},cY w a x f->cY w b y g->cY w (a++b) (x++y) (f++g)
 | [],b,x,y,f,g,h,k=>by
  obtain⟨rfl,rfl⟩:=h;exact k
 | d::a,b,x,y,f,g,h,k=>by
  obtain⟨v,r,f1,f2,rfl,rfl,h3,h4⟩:=h;exact⟨v,r++y,f1,f2++g,rfl,by simp,h3,h4.append k⟩
theorem ou{m:List (Nat×Nat)}{S:Nat->Prop}{B:Nat->Nat}{G':Gh}{lk':Nat->Option aB}(hS:∀ b,S b->G'.S b)(hB:∀ j id,ai m j=some id->G'.η id = .pointer (some ⟨B j,0,none⟩)/\fI (lk' id)=true) :
  ∀ {ks:List CK} {cs:List AV} {ds:List TV} {n n':Nat} {r:List AV} {os:List (Nat×aB)} {l:List Value} {fp:List Nat},bT m ks cs ds n=some (r,os,n')->ig w S B ks ds l fp->aN (C1 c G' lk' w) (ca n (dA ks ds)) (jM ks l) ->
   aN (C1 c G' lk' w) r l
 | [],[],[],n,n',r,os,l,fp,h,hb,hc=>by
  simp only[bT,b0J,b0M] at h;obtain⟨rfl,rfl,rfl⟩:=h;match l,hb with
  | [],_=>trivial
 | .d τ::ks,c0::cs,v::ds,n,n',r,os,l,fp,h,hb,hc=>by
  simp only[bT] at h;split at h;case h_2=>cases h
  case h_1 hv =>
  split at h;case h_2=>cases h
  case h_1 r1 VG n1 hr =>
  simp only[b0J,b0M] at h;obtain⟨rfl,rfl,rfl⟩:=h;match l,hb with
  | x::l,hb =>
   obtain⟨⟨e,h1,h2⟩,h3⟩:=hb;exact⟨⟨by rw[e];exact h1,Rd.aM hS (λ _ _=>rfl) _ h2⟩,ou hS hB hr h3 hc⟩
 | .o τ::ks,c0::cs,v::ds,n,n',r,os,l,fp,h,hb,hc=>by
  simp only[bT] at h;split at h;case h_2=>cases h
  case h_1 hv =>
  split at h;case h_2=>cases h
  case h_1 r1 VG n1 hr =>
  simp only[b0J,b0M] at h;obtain⟨rfl,rfl,rfl⟩:=h;match l,hb with
  | x::l,hb =>
   obtain⟨f1,f2,rfl,⟨e,h1,h2⟩,h3⟩:=hb;exact⟨hc.1,ou hS hB hr h3 hc.2⟩
 | .p j::ks,c0::cs,ds,n,n',r,os,l,fp,h,hb,hc=>by
  simp only[bT] at h;split at h;case h_2=>cases h
  case h_1 id =>
  split at h;case h_2=>cases h
  case h_1 i hi =>
  split at h;case h_2=>cases h
  case h_1 r1 VG n1 hbe hr =>
  have hbe:=b0L hbe;subst hbe;simp only[b0J,b0M] at h;obtain⟨rfl,rfl,rfl⟩:=h;match l,hb with
  | x::l,hb =>
   have hb:x = .pointer (some ⟨B j,0,none⟩)/\ig w S B ks ds l fp:=by cases ds<;>exact hb
   have hc:aN (C1 c G' lk' w) (ca n (dA ks ds)) (jM ks l):=by cases ds<;>exact hc
   obtain⟨q1,q2⟩:=hB j i hi;exact⟨⟨B j,q1,hb.1,q2⟩,ou hS hB hr hb.2 hc⟩
  | [],hb=>cases ds<;>cases hb
 | [],_::_,_,_,_,_,_,_,_,h,_,_=>by simp[bT] at h
 | [],[],_::_,_,_,_,_,_,_,h,_,_=>by simp[bT] at h
 | .d _::_,[],_,_,_,_,_,_,_,h,_,_=>by simp[bT] at h
 | .o _::_,[],_,_,_,_,_,_,_,h,_,_=>by simp[bT] at h
 | .p _::_,[],ds,_,_,_,_,_,_,h,_,_=>by cases ds<;>simp[bT] at h
 | .d _::_,_::_,[],_,_,_,_,_,_,h,_,_=>by simp[bT] at h
 | .o _::_,_::_,[],_,_,_,_,_,_,h,_,_=>by simp[bT] at h
theorem sY{m:List (Nat×Nat)}:∀ {ks:List CK} {cs:List AV} {ds:List TV} {n n':Nat} {r:List AV} {os:List (Nat×aB)},bT m ks cs ds n=some (r,os,n')->os=bP n (dA ks ds)/\n'=n+(dA ks ds).length
 | [],[],[],n,n',r,os,h=>by
  simp only[bT,b0J,b0M] at h;obtain⟨rfl,rfl,rfl⟩:=h;exact⟨rfl,rfl⟩
 | .d τ::ks,c0::cs,v::ds,n,n',r,os,h=>by
  simp only[bT] at h;split at h;case h_2=>cases h
  case h_1 hv =>
  split at h;case h_2=>cases h
  case h_1 r1 VG n1 hr =>
  simp only[b0J,b0M] at h;obtain⟨rfl,rfl,rfl⟩:=h;obtain⟨e1,e2⟩:=sY hr;exact⟨e1,e2⟩
 | .o τ::ks,c0::cs,v::ds,n,n',r,os,h=>by
  simp only[bT] at h;split at h;case h_2=>cases h
  case h_1 hv =>
  split at h;case h_2=>cases h
  case h_1 r1 VG n1 hr =>
  simp only[b0J,b0M] at h;obtain⟨rfl,rfl,rfl⟩:=h;obtain⟨e1,e2⟩:=sY hr;exact⟨by rw[e1];rfl,by rw[e2];simp[dA];omega⟩
 | .p j::ks,c0::cs,ds,n,n',r,os,h=>by
  simp only[bT] at h;split at h;case h_2=>cases h
  case h_1 id =>
  split at h;case h_2=>cases h
  case h_1 i hi =>
  split at h;case h_2=>cases h
  case h_1 r1 VG n1 hbe hr =>
  simp only[b0J,b0M] at h;obtain⟨rfl,rfl,rfl⟩:=h;obtain⟨e1,e2⟩:=sY hr;cases ds<;>exact⟨e1,e2⟩
 | [],_::_,_,_,_,_,_,h=>by simp[bT] at h
 | [],[],_::_,_,_,_,_,h=>by simp[bT] at h
 | .d _::_,[],_,_,_,_,_,h=>by simp[bT] at h
 | .o _::_,[],_,_,_,_,_,h=>by simp[bT] at h
 | .p _::_,[],ds,_,_,_,_,h=>by cases ds<;>simp[bT] at h
 | .d _::_,_::_,[],_,_,_,_,h=>by simp[bT] at h
 | .o _::_,_::_,[],_,_,_,_,h=>by simp[bT] at h
theorem Inv.a3v{s1:aj}(h1:Inv c G s1 a w){S' X:Nat->Prop}{Da:Nat->Option aB}(hk:bK X w w')(hX:∀ b,X b->c.w0.heap.size<=b\/c.X b)(hXS:∀ b,X b->¬ G.S b)
  (hS:∀ b,G.S b->S' b) (UY:∀ b,S' b->b<w'.heap.size) (W4:∀ b,b<w.heap.size->¬ X b->(S' b↔G.S b))
  (jx:∀ id,(Da id=s1.ai id/\∀ o b,s1.ai id=some o->dw (G.η id)=some b->¬ X b) \/
   ∃ cs dC,s1.ai id=some (.box cs)/\Da id=some (.box dC)/\(∀ b,dw (G.η id)=some b->¬ S' b)/\∃ b l t,G.η id = .pointer (some ⟨b,0,none⟩)/\w'.heap[b]?=some (.cells l.toArray t (0,0))/\∀ (G:Gh) (lk:Nat->Option aB),aN (C1 c G lk w') dC l)
  (oF:∀ id τ xs b,s1.ai id=some (.aE τ xs)->b∈G.φ id->¬ X b):bh c ⟨S',G.η,G.φ⟩ s1.sl s1.aC.length Da a w':=by
 have fi:∀ id,ew (s1.ai id) (Da id):=λ id=>by
  rcases jx id with ⟨e,_⟩|⟨cs,dC,e1,e2,_⟩
  .rw[e];exact ew.refl _
  .rw[e1,e2];exact⟨λ _=>rfl,(λ e τ xs q=>by cases q),(λ q=>by cases q),λ q=>by cases q⟩
 have cf:∀ b,St c G.S b->w'.heap[b]?=w.heap[b]?:=λ b hb=>by
  rcases hb with hb|hb
  .exact hk.block b (h1.dE b hb) λ q=>hXS b q hb
  .exact hk.block b (b0V hb.1 h1.aM.size) λ q=>(hX b q).elim (λ q=>by omega) hb.2.1
 have hold:∀ id o,Da id=some o->∃ o',s1.ai id=some o'/\(∀ τ xs,o = .aE τ xs->o' = .aE τ xs):=λ id o ho=>by
  rcases jx id with ⟨e,_⟩|⟨cs,dC,e1,e2,_⟩
  .exact⟨o,by rw[<-e];exact ho,λ τ xs q=>q⟩
  .rw[e2] at ho;simp only[b0J] at ho;exact⟨_,e1,λ τ xs q=>by rw[q] at ho;cases ho⟩
 have BS:∀ id τ xs,Da id=some (.aE τ xs)->s1.ai id=some (.aE τ xs):=λ id τ xs ht=>by
  obtain⟨o',q1,q2⟩:=hold id _ ht;rw[q1,q2 τ xs rfl]
 exact {
  defers:=h1.defers,size:=h1.size
  aM:=h1.aM.trans hk λ i hi hy=>(hX i hy).elim (λ q=>by omega) id
  iQ:=h1.iQ
  eh:=λ b hb hx=>(W4 b (b0V hb h1.aM.size) λ q=>(hX b q).elim (λ q=>by omega) hx).trans (h1.eh b hb hx)
  sX:=λ b hb=>hS b (h1.sX b hb)
  dE:=UY
  aC:=λ i=>(h1.aC i).mono (λ id _=>⟨fi id,rfl⟩) hS cf
  aJ:=λ id o ho=>by
   rcases jx id with ⟨e,e'⟩|⟨cs,dC,e1,e2,_,b,l,t,e3,e4,e5⟩
   .rw[e] at ho;exact (h1.aJ id o ho).mono rfl (λ b hb=>hk.block b (h1.place id o b ho hb).2.2 (e' o b ho hb)) (λ j _=>⟨fi j,rfl⟩) hS cf
   .rw[e2] at ho;simp only[b0J] at ho;subst ho;exact⟨b,l,t,e3,e4,e5 _ _⟩
  place:=λ id o b ho hb=>by
   obtain⟨o',q1,_⟩:=hold id o ho;obtain⟨p1,p2,p3⟩:=h1.place id o' b q1 hb;refine⟨p1,?_,b0V p3 hk.size⟩;rcases jx id with ⟨e,e'⟩|⟨cs,dC,e1,e2,e3,_⟩
   .exact λ q=>p2 ((W4 b p3 (e' o' b q1 hb)).1 q)
   .exact e3 b hb
  apart:=λ id dt o o' b ho cH hb cv=>by
   obtain⟨p,q1,_⟩:=hold id o ho;obtain⟨p',q2,_⟩:=hold dt o' cH;exact h1.apart id dt p p' b q1 q2 hb cv
  aR:={
   tr:=λ id τ xs ht=>(h1.aR.tr id τ xs (BS id τ xs ht)).aM λ b hb=>hk.block b (h1.aR.pl id τ xs b (BS id τ xs ht) hb).2.2.1 (oF id τ xs b (BS id τ xs ht) hb)
   nd:=λ id τ xs ht=>h1.aR.nd id τ xs (BS id τ xs ht)
   pl:=λ id τ xs b ht hb=>by
    obtain⟨p1,p2,p3,p4⟩:=h1.aR.pl id τ xs b (BS id τ xs ht) hb;refine⟨p1,λ q=>p2 ((W4 b p3 (oF id τ xs b (BS id τ xs ht) hb)).1 q),b0V p3 hk.size,λ i o ho=>?_⟩;obtain⟨o',q1,_⟩:=hold i o ho;exact p4 i o' q1
   ap:=λ id dt τ aW xs cK b ht Kv=>h1.aR.ap id dt τ aW xs cK b (BS id τ xs ht) (BS dt aW cK Kv) }
  root:=λ id v hr ht=>h1.root id v hr (by
   match hl:Da id,ht with
   | some (.aE τ xs),_=>rw[BS id τ xs hl];rfl)
  fP:=h1.fP
  dq:=λ id v hr ht=>h1.dq id v hr (by
   rcases jx id with ⟨e,_⟩|⟨cs,dC,e1,e2,_⟩
   .rw[<-e];exact ht
   .rw[e1];rfl)
  eG:=h1.eG }
theorem bh.a9j{sl:Nat->AV}{n:Nat}{lk lk2:Nat->Option aB}(h:bh c G sl n lk a w)(jx:∀ id,lk2 id=lk id\/∃ cs dC,lk id=some (.box cs)/\lk2 id=some (.box dC)/\∃ b l t,G.η id = .pointer (some ⟨b,0,none⟩)/\w.heap[b]?=some (.cells l.toArray t (0,0))/\aN (C1 c G lk2 w) dC l) :
  bh c G sl n lk2 a w:=by
 have fi:∀ id,ew (lk id) (lk2 id):=λ id=>by
  rcases jx id with e|⟨cs,dC,e1,e2,_⟩
  .rw[e];exact ew.refl _
  .rw[e1,e2];exact⟨λ _=>rfl,(λ e τ xs q=>by cases q),(λ q=>by cases q),λ q=>by cases q⟩
 have hold:∀ id o,lk2 id=some o->∃ o',lk id=some o'/\(∀ τ xs,o = .aE τ xs->o' = .aE τ xs):=λ id o ho=>by
  rcases jx id with e|⟨cs,dC,e1,e2,_⟩
  .exact⟨o,by rw[<-e];exact ho,λ τ xs q=>q⟩
  .rw[e2] at ho;simp only[b0J] at ho;exact⟨_,e1,λ τ xs q=>by rw[q] at ho;cases ho⟩
 have BS:∀ id τ xs,lk2 id=some (.aE τ xs)->lk id=some (.aE τ xs):=λ id τ xs ht=>by
  obtain⟨o',q1,q2⟩:=hold id _ ht;rw[q1,q2 τ xs rfl]
 exact {
  defers:=h.defers,size:=h.size,aM:=h.aM,iQ:=h.iQ,eh:=h.eh,sX:=h.sX,dE:=h.dE
  aC:=λ i=>(h.aC i).mono (λ id _=>⟨fi id,rfl⟩) (λ _ q=>q) (λ _ _=>rfl)
  aJ:=λ id o ho=>by
   rcases jx id with e|⟨cs,dC,e1,e2,b,l,t,e3,e4,e5⟩
   .rw[e] at ho;exact (h.aJ id o ho).mono rfl (λ _ _=>rfl) (λ j _=>⟨fi j,rfl⟩) (λ _ q=>q) (λ _ _=>rfl)
   .rw[e2] at ho;simp only[b0J] at ho;subst ho;exact⟨b,l,t,e3,e4,e5⟩
  place:=λ id o b ho hb=>by
   obtain⟨o',q1,_⟩:=hold id o ho;exact h.place id o' b q1 hb
  apart:=λ id dt o o' b ho cH hb cv=>by
   obtain⟨p,q1,_⟩:=hold id o ho;obtain⟨p',q2,_⟩:=hold dt o' cH;exact h.apart id dt p p' b q1 q2 hb cv
  aR:={
   tr:=λ id τ xs ht=>h.aR.tr id τ xs (BS id τ xs ht)
   nd:=λ id τ xs ht=>h.aR.nd id τ xs (BS id τ xs ht)
   pl:=λ id τ xs b ht hb=>by
    obtain⟨p1,p2,p3,p4⟩:=h.aR.pl id τ xs b (BS id τ xs ht) hb;refine⟨p1,p2,p3,λ i o ho=>?_⟩;obtain⟨o',q1,_⟩:=hold i o ho;exact p4 i o' q1
   ap:=λ id dt τ aW xs cK b ht Kv=>h.aR.ap id dt τ aW xs cK b (BS id τ xs ht) (BS dt aW cK Kv) }
  root:=λ id v hr ht=>h.root id v hr (by
   match hl:lk2 id,ht with
   | some (.aE τ xs),_=>rw[BS id τ xs hl];rfl)
  fP:=h.fP
  dq:=λ id v hr ht=>h.dq id v hr (by
   rcases jx id with e|⟨cs,dC,e1,e2,_⟩
   .rw[<-e];exact ht
   .rw[e1];rfl)
  eG:=h.eG }
theorem Dt{m:List (Nat×Nat)}{S:Nat->Prop}{B:Nat->Nat}{lk:Nat->Option aB}:∀ {sh:List (List CK)} {k:Nat} {bB:List (List TV)} {n:Nat} {bs ts:List (Nat×aB)} {fp:List Nat},pI lk m sh k bB n=some (bs,ts)->fe w S B k sh bB fp ->
  ∃ sL xs,ts=bP n sL/\cY w (sL.map TV.aK) xs fp/\(∀ u∈sL,u.τ.agg=false) /\
   (∀ j,k<=j->j<k+sh.length->∃ (id:Nat) (dC:List AV) (l:List Value) (t:TypeId),ai m j=some id/\(id,aB.box dC)∈bs/\w.heap[B j]?=some (.cells l.toArray t (0,0))/\l.length=dC.length) /\
   (∀ p∈bs,∃ (j:Nat) (dC:List AV) (l:List Value) (t:TypeId),k<=j/\j<k+sh.length/\ai m j=some p.1/\p.2 = .box dC/\w.heap[B j]?=some (.cells l.toArray t (0,0))/\l.length=dC.length /\
    ∀ (G':Gh) (lk':Nat->Option aB),(∀ b,S b->G'.S b)->(∀ j id,ai m j=some id->G'.η id = .pointer (some ⟨B j,0,none⟩)/\fI (lk' id)=true)->aN (C1 c G' lk' w) (ca n sL) xs->aN (C1 c G' lk' w) dC l)
 | [],k,[],n,bs,ts,fp,h,hb=>by
  simp only[pI,b0J,b0M] at h;obtain⟨rfl,rfl⟩:=h;exact⟨[],[],rfl,⟨rfl,hb⟩,by simp,λ j h1 h2=>by simp at h2;omega,by simp⟩
 | ks::sh,k,ds::bB,n,bs,ts,fp,h,hb=>by
  simp only[pI] at h;split at h;case h_2=>cases h
  case h_1 id aU =>
  split at h;case h_2=>cases h
  case h_1 cs iP =>
  split at h;case h_2=>cases h
  case h_1 r os n1 hr =>
  split at h;case h_2=>cases h
  case h_1 bs1 ts1 vG =>
  simp only[b0J,b0M] at h;obtain⟨rfl,rfl⟩:=h;obtain⟨l,t,f1,f2,rfl,hw,hB,hbs⟩:=hb;obtain⟨e1,e2⟩:=sY hr;obtain⟨sL,xs,q1,q2,q3,q4,q5⟩:=Dt vG hbs;obtain⟨o1,o2,o3⟩:=hB.sL;have Aa:∀ {G':Gh} {lk':Nat->Option aB},aN (C1 c G' lk' w) (ca n (dA ks ds++sL)) (jM ks l++xs)->aN (C1 c G' lk' w) (ca n (dA ks ds)) (jM ks l)/\aN (C1 c G' lk' w) (ca n1 sL) xs:=λ {G' lk'} q=>by
   rw[pL,<-e2] at q;have hl:(ca n (dA ks ds)).length=(jM ks l).length:=by
    rw[<-o3];have:∀ (us:List TV) (n:Nat),(ca n us).length=us.length:=λ us=>by
     induction us with
     | nil=>intro n;rfl
     | cons u us ih=>intro n;simp[ca,ih]
    exact this _ _
   have h1:=q.take (ca n (dA ks ds)).length;have h2:=q.drop (ca n (dA ks ds)).length;rw[b2S,hl,b2S] at h1;rw[b3d,hl,b3d] at h2;exact⟨h1,h2⟩
  have hrl:l.length=r.length:=by
   have:∀ {ks:List CK} {cs:List AV} {ds:List TV} {n n':Nat} {r:List AV} {os:List (Nat×aB)} {l:List Value} {fp:List Nat},bT m ks cs ds n=some (r,os,n')->ig w S B ks ds l fp->l.length=r.length:=by
    intro ks;induction ks with
    | nil =>
     intro cs ds n n' r os l fp h hb;cases cs<;>cases ds<;>simp[bT] at h;obtain⟨rfl,_⟩:=h;cases l with
     | nil=>rfl
     | cons x l=>cases hb
    | cons k0 ks ih =>
     intro cs ds n n' r os l fp h hb;cases l with
     | nil=>cases k0<;>cases ds<;>cases hb
     | cons x l =>
      cases k0 with
      | d τ =>
       cases cs with
       | nil=>simp[bT] at h
       | cons c0 cs =>
        cases ds with
        | nil=>cases hb
        | cons v ds =>
         simp only[bT] at h;split at h;case h_2=>cases h
         case h_1 hv =>
         split at h;case h_2=>cases h
         case h_1 r1 VG n1 hr =>
         simp only[b0J,b0M] at h;obtain⟨rfl,rfl,rfl⟩:=h;obtain⟨_,h2⟩:=hb;simp[ih hr h2]
      | o τ =>
       cases cs with
       | nil=>simp[bT] at h
       | cons c0 cs =>
        cases ds with
        | nil=>cases hb
        | cons v ds =>
         simp only[bT] at h;split at h;case h_2=>cases h
         case h_1 hv =>
         split at h;case h_2=>cases h
         case h_1 r1 VG n1 hr =>
         simp only[b0J,b0M] at h;obtain⟨rfl,rfl,rfl⟩:=h;obtain⟨_,_,_,_,h2⟩:=hb;simp[ih hr h2]
      | p j =>
       cases cs with
       | nil=>cases ds<;>simp[bT] at h
       | cons c0 cs =>
        have hb:x = .pointer (some ⟨B j,0,none⟩)/\ig w S B ks ds l fp:=by cases ds<;>exact hb
        simp only[bT] at h;split at h;case h_2=>cases h
        case h_1 id =>
        split at h;case h_2=>cases h
        case h_1 i hi =>
        split at h;case h_2=>cases h
        case h_1 r1 VG n1 hbe hr =>
        simp only[b0J,b0M] at h;obtain⟨rfl,rfl,rfl⟩:=h;simp[ih hr hb.2]
   exact this hr hB
  refine⟨dA ks ds++sL,jM ks l++xs,by rw[Bs,e1,q1,e2],by rw[b2b];exact o1.append q2,λ u hu=>(b0K.1 hu).elim (o2 u) (q3 u),λ j h1 h2=>?_,λ p hp=>?_⟩
  .by_cases hj:j=k
   .subst hj;exact⟨id,r,l,t,aU,b2X ..,hw,hrl⟩
   .obtain⟨dt,dC,l',t',g1,g2,g3,g4⟩:=q4 j (by omega) (by simp at h2;omega);exact⟨dt,dC,l',t',g1,b1O _ g2,g3,g4⟩
  .rcases b0X.1 hp with rfl|hp
   .exact⟨k,r,l,t,b1d _,by simp,aU,rfl,hw,hrl,λ G' lk' h1 h2 h3=>ou h1 h2 hr hB (Aa h3).1⟩
   .obtain⟨j,dC,l',t',g1,g2,g3,g4,g5,g7,g6⟩:=q5 p hp;exact⟨j,dC,l',t',by omega,by simp;omega,g3,g4,g5,g7,λ G' lk' h1 h2 h3=>g6 G' lk' h1 h2 (Aa h3).2⟩
 | [],_,_::_,_,_,_,_,h,_=>by simp[pI] at h
 | _::_,_,[],_,_,_,_,h,_=>by simp[pI] at h
theorem qw{α:Type}:∀ {l:List (Nat×α)} {k:Nat},(∀ p∈l,p.1≠k)->ai l k=none
 | [],k,_=>rfl
 | (j,o)::l,k,h=>by
  rw[nu,b0N (λ e=>h (j,o) (by simp) e.symm)];exact qw λ p hp=>h p (by simp[hp])
theorem Db:∀ (ids:List Nat) (l:List (Nat×aB)) (i:Nat),ai (ga ids l) i=if i∈ids then none else ai l i
 | [],l,i=>by simp[ga]
 | id::r,l,i=>by
  rw[ga,Db r,er];by_cases h1:i∈r
  .simp[h1]
  .by_cases h2:i=id
   .simp[h1,h2]
   .simp[h1,h2]
theorem D2{m:List (Nat×Nat)}(h2:(m.map (·.2)).Nodup){j k id:Nat}(hj:ai m j=some id)(hk:ai m k=some id):j=k:=by
 have e1:=eZ hj;have e2:=eZ hk;have:(j,id)=(k,id):=by
  clear hj hk;induction m with
  | nil=>cases e1
  | cons p m ih =>
   simp only[b1p,b1q] at h2;rcases b0X.1 e1 with q1|e1
   .rcases b0X.1 e2 with q2|e2
    .rw[q1,q2]
    .exact absurd (b0P.2 ⟨(k,id),e2,by rw[<-q1]⟩) h2.1
   .rcases b0X.1 e2 with q2|e2
    .exact absurd (b0P.2 ⟨(j,id),e1,by rw[<-q2]⟩) h2.1
    .exact ih h2.2 e1 e2
 exact congrArg Prod.fst this
theorem xF{m:List (Nat×Nat)}{k id:Nat}(h:ai m k=some id):id∈m.map (·.2):=b0P.2 ⟨_,eZ h,rfl⟩
theorem a0d{m:List (Nat×Nat)}{n:Nat}(h1:(m.map (·.1)).Nodup)(hl:m.length=n)(hk:∀ k,k<n->∃ id,ai m k=some id):∀ p∈m,p.1<n:=by
 have wa:List.range n ⊆ m.map (·.1):=λ k eX=>by
  obtain⟨id,q⟩:=hk k (b2x.1 eX);exact b0P.2 ⟨_,eZ q,rfl⟩
 have Ku:(m.map (·.1)) ⊆ List.range n:=by
  intro x hx;refine b3F λ hn=>?_;have h3:(x::List.range n).Nodup:=b1q.2 ⟨hn,b3Q⟩;have h4:(x::List.range n) ⊆ m.map (·.1):=λ y hy=>(b0X.1 hy).elim (λ e=>e ▸ hx) (λ hy=>wa hy);have:=b3m h3 h4;simp at this;omega
 exact λ p hp=>b2x.1 (Ku (b0P.2 ⟨p,hp,rfl⟩))
theorem Wh(hE:bp c.P c.E)(h:Inv c G s a w){o:Oper}{cl:Call}{d:Nat}{f:FuncId}(hd:o.dst=some d)(bl:o.op = .call cl)(fN:cl.callee = .value (.func f)){vc:Vc}{s':aj}(hq:Uk c.E s d f cl.argTypes.toList (cl.args.toList.map s.eval)=some (vc,s'))(dY:vc.ok){Q:Exit->Act->World->Prop} :
  o.wp c.P a w (λ a' w'=>∃ G',Inv c G' s' a' w') Q:=by
 unfold Uk at hq;split at hq;case h_2=>cases hq
 case h_1 id rv hrv =>
 split at hq;case h_2=>cases hq
 case h_1 τ xs aU =>
 split at hq;case h_2=>cases hq
 case h_1 Z9 has =>
 split at hq;case h_2=>cases hq
 case h_1 pre ys hc yA =>
 simp only[b0J,b0M] at hq;obtain⟨rfl,rfl⟩:=hq;obtain⟨px,jL⟩:=hE.Mm f Z9 τ xs pre ys hc dY;have hl:cl.args.toList.map s.eval=rv.reverse++[.aE id]:=by
  have:=congrArg List.reverse hrv;simpa using this
 have gH:=aN.jl (lk:=s.ai) (aY h) cl.args.toList;rw[hl] at gH;have Aa:∀ (us:List AV) (zs:List Value),aN (VR c G s.ai w) (us++[.aE id]) zs->∃ z1 v,zs=z1++[v]/\aN (VR c G s.ai w) us z1/\VR c G s.ai w (.aE id) v:=by
  intro us;induction us with
  | nil =>
   intro zs hz;match zs,hz with
   | [v],hz=>exact⟨[],v,rfl,ag,hz.1⟩
  | cons u us ih =>
   intro zs hz;match zs,hz with
   | z::zs,hz =>
    obtain⟨z1,v,e,h1,h2⟩:=ih zs hz.2;exact⟨z::z1,v,by rw[e];rfl,⟨hz.1,h1⟩,h2⟩
 obtain⟨z1,v,hz,Kw,hv⟩:=Aa _ _ gH;have O7:=λ b hb=>h.aR.pl id τ xs b aU hb;have dP:=qz hE h (mf:=[]) (S1:=G.S) (X:=λ b=>b∈G.φ id) (λ _ q=>q) (λ id o ho=>(ti ho).1) (λ τ v x y q1 q2=>xR (λ id e τ xs q=>by obtain⟨_,_,cs,e⟩:=ti q;cases e) (λ id τ xs q=>by obtain⟨_,_,cs,e⟩:=ti q;cases e) q1 q2)
  (λ b hb q=>by
   obtain⟨p1,p2,_⟩:=O7 b hb;rcases q with q|⟨q,q3,_⟩
   .exact p2 q
   .exact p1.elim (λ q=>by omega) q3) (λ i o b ho hb hx=>(O7 b hx).2.2.2 i o (ti ho).1 hb) (lk0:=s.ai) has Kw Kw (λ i k hk=>by simp at hk)
 obtain⟨_,l,eY,xx⟩:=hv;have hO:=Ow.XC (h.aR.tr id τ xs aU) eY;unfold Oper.wp;rw[gA bl fN rfl px];simp only[Oper.upon];rw[hz];have hbo:(λ i=>ju G [] i)=λ _=>0:=rfl;refine (jL w G.S z1 v (G.φ id) h.XV dP hO (h.aR.nd id τ xs aU) (λ b hb=>⟨(O7 b hb).2.2.1,(O7 b hb).2.1⟩)).mono ?_;rintro e w' ⟨r,rfl,hk,Cz,rz,YJ,wa⟩;obtain⟨l',hT,_⟩:=ij.XB (τ:=τ) rz;rw[hd];show ∃ G',Inv c G' ((s.cm.fQ id τ ys).put (some d) .any) (a.put (some d) r) w';refine h.Zq (w':=w') (t:=s.cm.fQ id τ ys) (A:=[(id,(.tuple (v::l').toArray,Cz, .aE τ ys))]) ?_ ?_ ?_ (by simp) hk (λ b hb=>⟨_,List.mem_singleton.2 rfl,hb⟩) rfl (λ i=>?_) (λ G' lk=>trivial)
 .intro p hp;simp only[b0Z] at hp;subst hp;exact⟨τ,xs,_,v,l,l',aU,rfl,eY,rfl,hT,YJ⟩
 .intro p hp b hb;simp only[b0Z] at hp;subst hp;rcases wa b hb with q|q
  .exact .inl ⟨_,b0Z.2 rfl,q⟩
  .exact .inr (a1w h q.1 q.2)
 .intro p hp q hq b _ _;simp only[b0Z] at hp hq;rw[hp,hq]
 .rw[Qy,jE]
theorem XY(hE:bp c.P c.E)(h:Inv c G s a w){o:Oper}{vc:Vc}{s':aj}(hq:Ub c.E s o=some (vc,s'))(dY:vc.ok){Q:Exit->Act->World->Prop} :
  o.wp c.P a w (λ a' w'=>∃ G',Inv c G' s' a' w') Q:=by
 unfold Ub at hq;split at hq;case h_2=>cases hq
 case h_1 d hd =>
 split at hq;case h_2=>cases hq
 case h_1 cl bl =>
 split at hq;case h_2=>cases hq
 case h_1 f fN =>
 split at hq;case h_2 =>
  split at hq;case h_1 r hr=>exact Wh hE h hd bl fN (hr.trans hq) dY
  case h_2 =>
   cases hq
 case h_1 sk hsk =>
 split at hq;case h_2=>cases hq
 case h_1 m0 hm0 =>
 split at hq;case h_2=>cases hq
 case h_1 bB ids m hm =>
 split at hq;case h_2=>cases hq
 case h_1 a5c =>
 split at hq;case h_2=>cases hq
 case h_1 Z9 has =>
 split at hq;case h_2=>cases hq
 case h_1 pre res dF hc =>
 split at hq;case h_2=>cases hq
 case h_1 bs ts oQ =>
 split at hq;case h_2=>cases hq
 case h_1 EN =>
 simp only[Option.some.injEq,Prod.mk.injEq] at hq;obtain⟨rfl,rfl⟩:=hq;simp only[Bool.and_eq_true] at a5c;obtain⟨Xg,Z1,Z2,hn4⟩:=a5c;have Xg:=de Xg;have Z1:=de Z1;have Z2:=de Z2;have hn4:=Nat.eq_of_beq_eq_true hn4;simp only[Bool.and_eq_true,List.all_eq_true] at EN;have rB:∀ p∈bj (bJ d) res++ts,(ids.foldl aj.gone s).ai p.1=none:=λ p hp=>by simpa using EN.1 p hp
 have oP:=de EN.2;obtain⟨px,jL⟩:=hE.R9 f sk Z9 bB pre res dF hsk hc dY;obtain⟨_,Tf⟩:=tJ hm0;obtain⟨hx0,Th,fa,OQ,LW,a8L⟩:=rZ h hm Xg;have OQ:=OQ m (jQ.refl m);have Tf:∀ (i k:Nat),sk.ps[i]?=some (some k)->∃ id,(cl.args.toList.map s.eval)[i]?=some (AV.ptr id 0)/\ai m k=some id:=λ i k q=>by
  obtain⟨id,q1,q2⟩:=Tf i k q;exact⟨id,q1,hx0 k id q2⟩
 have h1:Inv c G (ids.foldl aj.gone s) a w:=uc ids h;have hF:∀ b,b∈fa->sM c G (ids.foldl aj.gone s).ai w b:=λ b hb=>Iu h (a8L b hb);have zW:∀ k,k<sk.sh.length->∃ (id:Nat) (cs:List AV),ai m k=some id/\(ids.foldl aj.gone s).ai id=some (.box cs):=λ k hk=>by
  obtain⟨id,cs,q1,q2⟩:=Th k (Nat.zero_le _) (by simpa using hk);refine⟨id,?_⟩;have aU:id∉ids:=λ hi=>by
   have:∀ {sh:List (List CK)} {k:Nat} {m m':List (Nat×Nat)} {bB:List (List TV)} {ids:List Nat},ic s.ai sh k m=some (bB,ids,m')->∀ i∈ids,∀ cs,s.ai i≠some (.box cs):=by
    have lY:∀ {ks:List CK} {cs:List AV} {m m':List (Nat×Nat)} {ds:List TV} {ids:List Nat},cR s.ai ks cs m=some (ds,ids,m')->∀ i∈ids,∀ cs,s.ai i≠some (.box cs):=by
     intro ks;induction ks with
     | nil =>
      intro cs m m' ds ids ht;cases cs<;>simp[cR] at ht;obtain⟨_,rfl,_⟩:=ht;simp
     | cons k0 ks ih =>
      intro cs m m' ds ids ht;cases cs with
      | nil=>cases k0<;>simp[cR] at ht
      | cons v cs =>
       cases k0 with
       | d τ =>
        simp only[cR] at ht;split at ht;case h_2=>cases ht
        case h_1 y hy AS =>
        split at ht;case h_2=>cases ht
        case h_1 ds1 Vi m1 hr =>
        simp only[b0J,b0M] at ht;obtain⟨_,rfl,_⟩:=ht;exact ih hr
       | o τ =>
        simp only[cR] at ht;split at ht;case h_2=>cases ht
        case h_1 y i hy AS =>
        split at ht;case h_2=>cases ht
        case h_1 ds1 Vi m1 hr =>
        simp only[b0J,b0M] at ht;obtain⟨_,rfl,_⟩:=ht;intro j hj UD;rcases b0K.1 hj with hj|hj
        .unfold eO at hy;split at hy
         .split at hy
          .simp only[b0J,b0M] at hy;obtain⟨_,rfl⟩:=hy;cases hj
          .cases hy
         .split at hy
          .simp only[b0J,b0M] at hy;obtain⟨_,rfl⟩:=hy;cases hj
          .cases hy
         .split at hy
          .rename_i hl;split at hy
           .simp only[b0J,b0M] at hy;obtain⟨_,rfl⟩:=hy;simp only[b0Z] at hj;subst hj;rw[hl];simp
           .cases hy
          .cases hy
         .split at hy
          .rename_i hl;split at hy
           .simp only[b0J,b0M] at hy;obtain⟨_,rfl⟩:=hy;simp only[b0Z] at hj;subst hj;rw[hl];simp
           .cases hy
          .cases hy
         .cases hy
        .exact ih hr j hj UD
       | p j =>
        simp only[cR] at ht;split at ht;case h_2=>cases ht
        case h_1 id =>
        split at ht
        .split at ht
         .exact ih ht
         .cases ht
        .exact ih ht
    intro sh;induction sh with
    | nil =>
     intro k m m' bB ids ht;simp only[ic,b0J,b0M] at ht;obtain⟨_,rfl,_⟩:=ht;simp
    | cons ks sh ih =>
     intro k m m' bB ids ht;simp only[ic] at ht;split at ht;case h_2=>cases ht
     case h_1 id aU =>
     split at ht;case h_2=>cases ht
     case h_1 cs iP =>
     split at ht;case h_2=>cases ht
     case h_1 ds i m1 hr =>
     split at ht;case h_2=>cases ht
     case h_1 a8h Vi m2 vG =>
     simp only[b0J,b0M] at ht;obtain⟨_,rfl,_⟩:=ht;intro j hj UD;rcases b0K.1 hj with hj|hj
     .exact lY hr j hj UD
     .exact ih vG j hj UD
   exact this hm id hi cs q2
  have:∀ (ids:List Nat) (s:aj) (cs:List AV),id∉ids->s.ai id=some (.box cs)->∃ dC,(ids.foldl aj.gone s).ai id=some (.box dC):=by
   intro ids;induction ids with
   | nil=>intro s cs _ hs;exact⟨cs,hs⟩
   | cons i ids ih =>
    intro s cs hi hs;have dD:id≠i:=λ e=>hi (by simp[e]);refine ih (s.gone i) (cs.map (AV.kill i)) (λ q=>hi (by simp[q])) ?_;rw[An,b0N dD,hs];rfl
  obtain⟨dC,q3⟩:=this ids s cs aU q2;exact⟨dC,q1,q3⟩
 generalize Xj:ids.foldl aj.gone s=s1 at *
 have eY:∀ k id,ai m k=some id->k<sk.sh.length->G.η id = .pointer (some ⟨ju G m k,0,none⟩)/\dw (G.η id)=some (ju G m k):=λ k id hk bz=>by
  obtain⟨dt,cs,q1,q2⟩:=zW k bz;rw[hk] at q1;simp only[b0J] at q1;subst q1;obtain⟨b,l,t,k1,_⟩:=h1.aJ id _ q2;have:ju G m k=b:=by
   simp only[ju,hk,k1];rfl
  rw[this,k1];exact⟨rfl,rfl⟩
 have gH:=a0d Z1 hn4 (λ k hk=>by obtain⟨id,_,q,_⟩:=zW k hk;exact⟨id,q⟩);have YI:∀ id,id∈m.map (·.2)->∃ k cs,k<sk.sh.length/\ai m k=some id/\s1.ai id=some (.box cs):=λ id aU=>by
  obtain⟨⟨k,dt⟩,hp,rfl⟩:=b0P.1 aU;have hk:=gH _ hp;have hl:=sW Z1 hp;obtain⟨id2,cs,q1,q2⟩:=zW k hk;rw[hl] at q1;simp only[b0J] at q1;subst q1;exact⟨k,cs,hk,hl,q2⟩
 have AU:∀ j k,j<sk.sh.length->k<sk.sh.length->ju G m j=ju G m k->j=k:=λ j k hj hk e=>by
  obtain⟨idj,csj,j1,j2⟩:=zW j hj;obtain⟨idk,csk,k1,k2⟩:=zW k hk;have:=h1.apart idj idk _ _ (ju G m j) j2 k2 (eY j idj j1 hj).2 (by rw[e];exact (eY k idk k1 hk).2);subst this;exact D2 Z2 j1 k1
 have RM:∀ k,k<sk.sh.length->(c.w0.heap.size<=ju G m k\/c.X (ju G m k))/\¬ G.S (ju G m k)/\ju G m k<w.heap.size:=λ k hk=>by
  obtain⟨id,cs,k1,k2⟩:=zW k hk;exact h1.place id _ _ k2 (eY k id k1 hk).2
 have a5e:∀ b∈fa,∀ k,k<sk.sh.length->ju G m k≠b:=λ b hb k hk e=>by
  obtain⟨id,cs,k1,k2⟩:=zW k hk;exact (hF b hb).2.2.2.1 id _ k2 (by rw[<-e];exact (eY k id k1 hk).2)
 have hXo:∀ b,BX sk.sh.length (ju G m) fa b->(c.w0.heap.size<=b\/c.X b)/\¬ G.S b:=λ b hb=>by
  rcases hb with hb|⟨k,hk,rfl⟩
  .exact⟨(hF b hb).1,(hF b hb).2.1⟩
  .exact⟨(RM k hk).1,(RM k hk).2.1⟩
 have sB:∀ b,BX sk.sh.length (ju G m) fa b->¬ St c G.S b:=λ b hb q=>by
  obtain⟨q1,q2⟩:=hXo b hb;rcases q with q|⟨q,q3,_⟩
  .exact q2 q
  .exact q1.elim (λ q=>by omega) q3
 have kp:∀ id o b,id∉m.map (·.2)->s1.ai id=some o->dw (G.η id)=some b->¬ BX sk.sh.length (ju G m) fa b:=λ id o b aU ho hb q=>by
  rcases q with q|⟨k,hk,rfl⟩
  .exact (hF b q).2.2.2.1 id _ ho hb
  .obtain⟨dt,cs,k1,k2⟩:=zW k hk;have:=h1.apart id dt _ _ _ ho k2 hb (eY k dt k1 hk).2;subst this;exact aU (xF k1)
 have a4X:∀ id τ xs b,s1.ai id=some (.aE τ xs)->b∈G.φ id->¬ BX sk.sh.length (ju G m) fa b:=λ id τ xs b ht hb q=>by
  rcases q with q|⟨k,hk,rfl⟩
  .exact (hF b q).2.2.2.2 id τ xs ht hb
  .obtain⟨dt,cs,k1,k2⟩:=zW k hk;exact (h1.aR.pl id τ xs _ ht hb).2.2.2 dt _ k2 (eY k dt k1 hk).2
 have xx:∀ id o b,sLk sk.sh s1.ai (m.map (·.2)) id=some o->dw (G.η id)=some b->¬ BX sk.sh.length (ju G m) fa b:=λ id o b ho hb=>kp id o b (Jw ho).2 (Jw ho).1 hb;have a3K:Su c.P f sk.sh res dF w G.S (ju G m) (cl.args.toList.map a.eval) fa:=by
  cases QT:Iq sk.sh with
  | false =>
   have iF:∀ id o,sLk sk.sh s1.ai (m.map (·.2)) id=some o->∃ cs,o = .box cs:=λ id o q=>by
    unfold sLk at q;rw[QT] at q;exact (ti q).2.2
   have dP:=qz hE h1 (mf:=m) (λ _ q=>q) (λ id o ho=>(Jw ho).1) (λ τ v x y q1 q2=>xR (λ id e τ xs q=>by obtain⟨cs,e⟩:=iF _ _ q;cases e) (λ id τ xs q=>by obtain⟨cs,e⟩:=iF _ _ q;cases e) q1 q2) sB xx (lk0:=s.ai) has (aN.jl (aY h1) cl.args.toList) (aN.jl (aY h) cl.args.toList) Tf;exact jL w G.S (ju G m) _ fa h1.XV OQ LW (λ b hb=>⟨(hF b hb).2.2.1,(hF b hb).2.1,a5e b hb⟩) (λ k hk=>⟨(RM k hk).2.2,(RM k hk).2.1⟩) AU dP
  | true =>
   have dP:=qz hE h1 (mf:=m) (S1:=SX G s1.ai) (λ _ q => .inl q) (λ id o ho=>(Jw ho).1) (λ τ v x y q1 q2=>vL h1.aR h1.aJ (λ id o ho=>(Jw ho).1) q1 q2) sB xx (lk0:=s.ai) has (aN.jl (aY h1) cl.args.toList) (aN.jl (aY h) cl.args.toList) Tf;refine jL.more QT h1.V9 (λ _ q => .inl q) (λ b hb q=>?_) OQ LW (λ b hb=>⟨(hF b hb).2.2.1,(hF b hb).2.1,a5e b hb⟩) (λ k hk=>⟨(RM k hk).2.2,(RM k hk).2.1⟩) AU dP;rcases q with q|⟨id,e,τ,xs,q1,q2⟩|⟨id,τ,xs,q1,q2⟩
   .exact (hXo b hb).2 q
   .refine kp id _ b (λ aU=>?_) q1 q2 hb;obtain⟨_,cs,_,_,q3⟩:=YI id aU;rw[q1] at q3;cases q3
   .exact a4X id τ xs b q1 q2 hb
 unfold Oper.wp;rw[gA bl fN rfl px];simp only[Oper.upon];refine Calls.mono (show Su c.P f sk.sh res dF w G.S (ju G m) (cl.args.toList.map a.eval) fa from a3K) ?_;rintro e w' ⟨x,S',fp,Gu,rfl,hk,OT,ZU,MC,hO,hB',dh,lZ,hBS⟩;obtain⟨sL,xs,e1,e2,e3,e4,e5⟩:=Dt oQ hB';let Da:Nat->Option aB:=λ i=>match ai bs i with
  | some (.box cs)=>some (.box (List.replicate cs.length .any))
  | _=>s1.ai i
 have Ti:∀ id,id∈m.map (·.2)->∃ (k:Nat) (dC:List AV),k<sk.sh.length/\ai m k=some id/\ai bs id=some (.box dC)/\∃ (l:List Value) (t:TypeId),w'.heap[ju G m k]?=some (.cells l.toArray t (0,0))/\l.length=dC.length:=λ id aU=>by
  obtain⟨k,cs,k1,k2,k3⟩:=YI id aU;obtain⟨dt,dC,l,t,g1,g2,g3,g4⟩:=e4 k (Nat.zero_le _) (by simpa using k1);rw[k2] at g1;simp only[Option.some.injEq] at g1;subst g1;have bW:∃ o,ai bs id=some o:=by
   cases hl:ai bs id with
   | some o=>exact⟨o,rfl⟩
   | none =>
    exfalso;have:∀ {l:List (Nat×aB)} {k:Nat},ai l k=none->∀ p∈l,p.1≠k:=by
     intro l;induction l with
     | nil=>intro k _ p hp;cases hp
     | cons q l ih =>
      intro k hq p hp;obtain⟨j,o⟩:=q;rw[nu] at hq;split at hq
      .cases hq
      .rename_i dD;rcases b0X.1 hp with rfl|hp
       .exact λ e=>dD e.symm
       .exact ih hq p hp
    exact this hl _ g2 rfl
  obtain⟨o,ho⟩:=bW;obtain⟨j,UD,l2,t2,_,j2,j3,j4,j5,j6,_⟩:=e5 _ (eZ ho);have:j=k:=D2 Z2 j3 k2;subst this;simp only at j4;subst j4;exact⟨j,UD,k1,k2,ho,l2,t2,j5,j6⟩
 have a5b:∀ id,id∉m.map (·.2)->ai bs id=none:=λ id aU=>qw λ p hp e=>by
  obtain⟨j,_,_,_,_,_,j3,_⟩:=e5 p hp;exact aU (e ▸ xF j3)
 have RS:∀ id,id∉m.map (·.2)->Da id=s1.ai id:=λ id aU=>by simp only[Da,a5b id aU]
 have a1J:∀ id k dC,ai m k=some id->ai bs id=some (.box dC)->Da id=some (.box (List.replicate dC.length .any)):=λ id k dC _ hb=>by simp only[Da,hb]
 have hA:bh c ⟨S',G.η,G.φ⟩ s1.sl s1.aC.length Da a w':=by
  refine Inv.a3v h1 (X:=BX sk.sh.length (ju G m) fa) hk (λ b hb=>(hXo b hb).1) (λ b hb=>(hXo b hb).2) OT ZU MC (λ id=>?_) a4X;by_cases aU:id∈m.map (·.2)
  .obtain⟨k,dC,q1,q2,q3,l,t,q4,q5⟩:=Ti id aU;obtain⟨_,cs,_,_,q6⟩:=YI id aU;obtain⟨g1,g2⟩:=eY k id q2 q1;refine .inr ⟨cs,_,q6,a1J id k dC q2 q3,λ b hb=>?_,ju G m k,l,t,g1,q4,λ G' lk'=>?_⟩
   .rw[g2] at hb;simp only[b0J] at hb;subst hb;exact hBS k q1
   .have:∀ (l:List Value),aN (C1 c G' lk' w') (List.replicate l.length .any) l:=λ l=>by
     induction l with
     | nil=>exact trivial
     | cons x l ih=>exact⟨ag,ih⟩
    rw[<-q5];exact this l
  .exact .inl ⟨RS id aU,λ o b ho hb=>kp id o b aU ho hb⟩
 have a1M:∀ p∈bj (bJ d) res++ts,p.1∉m.map (·.2):=λ p hp aU=>by
  obtain⟨_,cs,_,_,q⟩:=YI p.1 aU;rw[rB p hp] at q;cases q
 rw[b1e] at dh;obtain⟨nd1,nd2,nd3⟩:=dh;rw[b2b,b1e] at oP;obtain⟨dd1,dd2,dd3⟩:=oP;have ZR:Fr c ⟨S',G.η,G.φ⟩ Da w' (fp++Gu):=λ b hb=>by
  obtain⟨q1,q2,q3⟩:=lZ b hb;have rA:∀ i o,Da i=some o->dw (G.η i)≠some b:=λ i o cr e=>by
   by_cases aU:i∈m.map (·.2)
   .obtain⟨k,dC,g1,g2,_⟩:=Ti i aU;rw[(eY k i g2 g1).2] at e;simp only[b0J] at e;exact q3 k g1 e
   .rw[RS i aU] at cr;rcases q1 with q1|⟨q1,_⟩
    .exact (hF b q1).2.2.2.1 i o cr e
    .have:=(h1.place i o b cr e).2.2;omega
  have hbt:∀ j τ zs,Da j=some (.aE τ zs)->b∉G.φ j:=λ j τ zs hj lX=>by
   by_cases aU:j∈m.map (·.2)
   .obtain⟨k,dC,g1,g2,g3,_⟩:=Ti j aU;rw[a1J j k dC g2 g3] at hj;cases hj
   .rw[RS j aU] at hj;rcases q1 with q1|⟨q1,_⟩
    .exact (hF b q1).2.2.2.2 j τ zs hj lX
    .have:=(h1.aR.pl j τ zs b hj lX).2.2.1;omega
  rcases q1 with q1|⟨q1,q1'⟩
  .exact⟨(hF b q1).1,q2,b0V (hF b q1).2.2.1 hk.size,rA,hbt⟩
  .exact⟨.inl (b2c h1.aM.size q1),q2,q1',rA,hbt⟩
 have Kl:∀ j,bJ d<=j->c.R j=none:=λ j hj=>by
  cases hr:c.R j with
  | none=>rfl
  | some v=>have:=h.fP j v hr;unfold bJ at hj;omega
 obtain⟨ys,rz,Pd⟩:=Ht (c:=c) (id:=bJ d) hO;obtain⟨G1,sV,k1,k2,k3,k4,k5⟩:=hA.HP (id:=bJ d) rz nd1 (λ b hb=>ZR b (by simp[hb])) (λ p hp=>by
  rw[RS p.1 (a1M p (by simp[hp]))];exact rB p (by simp[hp])) dd1 Kl
 rw[e1] at dd2 dd3 rB a1M;obtain⟨G2,lk2,p1,p2,p3,p4,_⟩:=k2.xN (us:=sL) (cs:=xs) (fp:=Gu) (id:=bJ d+60) e3 e2 nd2 (k5 Gu (λ b hb=>ZR b (by simp[hb])) λ b hb cv=>nd3 b cv b hb rfl) (λ p hp=>by
  rw[k1 p.1];unfold fT;rw[qw (l:=bj (bJ d) res) λ q hq e=>dd3 q.1 (List.mem_map.2 ⟨q,hq,rfl⟩) p.1 (List.mem_map.2 ⟨p,hp,rfl⟩) e];simp only;rw[RS p.1 (a1M p (by simp[hp]))];exact rB p (by simp[hp])) dd2 (λ j hj=>Kl j (by omega))
 have a9b:VR c G2 lk2 w' (jm (bJ d) res) x:=Pd G2 lk2 (k4.imp λ u y _ hy=>hy.ext p3);have yz:=bh.put (d:=some d) p2 a9b;have a5f:∀ i,aj.ai { aC:=s1.aC.set d (jm (bJ d) res),aJ:=bs++(bj (bJ d) res++ts)++ga (m.map (·.2)) s1.aJ } i=fT bs (fT (bj (bJ d) res) (fT ts (λ i=>if i∈m.map (·.2) then none else s1.ai i))) i:=λ i=>by
  show ai (bs++(bj (bJ d) res++ts)++ga (m.map (·.2)) s1.aJ) i=_;rw[b1o,nt,show ai (bj (bJ d) res++ts++ga (m.map (·.2)) s1.aJ)=fT (bj (bJ d) res) (fT ts (λ i=>if i∈m.map (·.2) then none else s1.ai i)) from funext λ j=>by
   rw[b1o,nt,show ai (ts++ga (m.map (·.2)) s1.aJ)=fT ts (λ i=>if i∈m.map (·.2) then none else s1.ai i) from funext λ j=>by
    rw[nt,show ai (ga (m.map (·.2)) s1.aJ)=(λ i=>if i∈m.map (·.2) then none else s1.ai i) from funext λ j=>Db _ _ j]]]
 generalize cf:({ aC:=s1.aC.set d (jm (bJ d) res),aJ:=bs++(bj (bJ d) res++ts)++ga (m.map (·.2)) s1.aJ }:aj)=s2 at *
 have a8S:∀ i,lk2 i=fT ts (fT (bj (bJ d) res) Da) i:=λ i=>by
  rw[p1 i,e1];unfold fT;rw[k1 i];rfl
 have RU:∀ i,i∉m.map (·.2)->s2.ai i=lk2 i:=λ i aU=>by
  rw[a5f i,a8S i];unfold fT;rw[a5b i aU,RS i aU];simp only[if_neg aU];cases hV:ai (bj (bJ d) res) i with
  | none=>rfl
  | some o =>
   rw[qw (l:=ts) λ q hq e=>dd3 i (b0P.2 ⟨(i,o),eZ hV,rfl⟩) q.1 (b0P.2 ⟨q,by rw[<-e1];exact hq,rfl⟩) e.symm]
 have fu:∀ i,i∈m.map (·.2)->∃ k dC,k<sk.sh.length/\ai m k=some i/\ai bs i=some (.box dC)/\lk2 i=some (.box (List.replicate dC.length .any))/\s2.ai i=some (.box dC)/\G2.η i = .pointer (some ⟨ju G m k,0,none⟩):=λ i aU=>by
  obtain⟨k,dC,q1,q2,q3,_⟩:=Ti i aU;have hA':=a1J i k dC q2 q3;obtain⟨r1,r2,_⟩:=(k3.trans p3).old i _ hA';refine⟨k,dC,q1,q2,q3,r1,?_,by rw[r2];exact (eY k i q2 q1).1⟩;rw[a5f i];unfold fT;rw[q3]
 have fi:∀ i,ew (lk2 i) (s2.ai i):=λ i=>by
  by_cases aU:i∈m.map (·.2)
  .obtain⟨k,dC,_,_,_,q4,q5,_⟩:=fu i aU;rw[q4,q5];exact⟨λ _=>rfl,(λ e τ xs q=>by cases q),(λ q=>by cases q),λ q=>by cases q⟩
  .rw[RU i aU];exact ew.refl _
 have a6v:=bh.a9j (lk2:=s2.ai) yz (λ i=>by
  by_cases aU:i∈m.map (·.2)
  .obtain⟨k,dC,q1,q2,q3,q4,q5,q6⟩:=fu i aU;obtain⟨j,UD,l,t,_,j2,j3,j4,j5,_,j7⟩:=e5 _ (eZ q3);have:j=k:=D2 Z2 j3 q2;subst this;simp only[aB.box.injEq] at j4;subst j4;refine .inr ⟨_,_,q4,q5,ju G m j,l,t,q6,j5,?_⟩;refine j7 G2 s2.ai (λ b hb=>by rw[p3.S,k3.S];exact hb) (λ j' id CN=>?_) (p4.imp λ u y _ hy=>hy.mono (λ i _=>⟨fi i,rfl⟩) (λ _ q=>q) (λ _ _=>rfl));obtain⟨k',b0r,g1,g2,_,_,g5,g6⟩:=fu id (xF CN);have:j'=k':=D2 Z2 CN g2;subst this;exact⟨g6,by rw[g5];rfl⟩
  .exact .inl (RU i aU))
 refine⟨G2,?_⟩;unfold Inv;rw[hd,<-cf,show aj.sl { aC:=s1.aC.set d (jm (bJ d) res),aJ:=bs++(bj (bJ d) res++ts)++ga (m.map (·.2)) s1.aJ }=iY s1.aC.length s1.sl (some d) (jm (bJ d) res) from oB s1.aC d _ _,
  show ({ aC:=s1.aC.set d (jm (bJ d) res),aJ:=bs++(bj (bJ d) res++ts)++ga (m.map (·.2)) s1.aJ }:aj).aC.length=s1.aC.length from by simp,cf]
 exact a6v
end
theorem ym(id:Nat)(u:AV):∀ l:List AV,AV.ON id u l=l.map (AV.ED id u)
 | []=>rfl
 | v::r=>congrArg _ (ym id u r)
section
variable {c:Ctx} {G:Gh} {s:aj} {a:Act} {w w':World}
theorem a2R{lk:Nat->Option aB}{id:Nat}{e:TypeId}{τ:Ty}{xs:List τ.den}(ho:OR c G lk w id (.row e τ xs)){S':Nat->Prop}(hS:∀ b,G.S b->S' b)(hb:∀ b,dw (G.η id)=some b->S' b) :
  Rd w S' (Ty.aK (.slice τ) xs) [G.η id]:=by
 obtain⟨l,h1,h2,h3⟩:=ho;exact R2 h1 h2 h3 hS hb
theorem C1.ED{lk lk':Nat->Option aB}{id:Nat}{e:TypeId}{τ:Ty}{xs:List τ.den}(aU:lk id=some (.row e τ xs))(ho:OR c G lk w id (.row e τ xs)){S':Nat->Prop}(hS:∀ b,G.S b->S' b)(hb:∀ b,dw (G.η id)=some b->S' b)
  (bW:∀ j,j≠id->ew (lk j) (lk' j)) {v:AV} {x:Value} (h:C1 c G lk w v x):C1 c ⟨S',G.η,G.φ⟩ lk' w (AV.ED id (.aO ⟨.slice τ,xs⟩) v) x:=by
 have aM:(∀ j,v.refs j=true->j≠id)->C1 c ⟨S',G.η,G.φ⟩ lk' w v x:=λ hr=>h.mono (λ j hj=>⟨bW j (hr j hj),rfl⟩) hS (λ _ _=>rfl);cases v with
 | row i =>
  simp only[AV.ED];split
  .rename_i hi;have hi:=b0L hi;subst hi;refine⟨rfl,?_⟩;rw[h.1];exact a2R ho hS hb
  .rename_i hi;refine aM λ j hj=>?_;simp only[AV.refs] at hj;have:=b0L hj;intro e;subst this e;simp at hi
 | ep i k off =>
  simp only[AV.ED];split
  .trivial
  .rename_i hi;refine aM λ j hj=>?_;simp only[AV.refs] at hj;have:=b0L hj;intro e;subst this e;simp at hi
 | ptr i off =>
  refine aM λ j hj=>?_;simp only[AV.refs] at hj;have:=b0L hj;intro e;subst this e;obtain⟨b,_,_,h3⟩:=h;rw[aU] at h3;cases h3
 | agg cs=>exact h.elim
 | gK cs=>exact h.elim
 | cP f cs=>exact h.elim
 | gR v=>exact aM λ j hj=>by cases hj
 | any=>trivial
 | dX=>exact h
 | aO u=>exact aM λ j hj=>by cases hj
 | nil=>exact aM λ j hj=>by cases hj
 | cU u=>exact aM λ j hj=>by cases hj
 | fn f=>exact aM λ j hj=>by cases hj
 | mp i =>
  refine aM λ j hj=>?_;simp only[AV.refs] at hj;have:=b0L hj;intro e;subst this e;have h3:=h.2.1;rw[aU] at h3;cases h3
 | aE i =>
  refine aM λ j hj=>?_;simp only[AV.refs] at hj;have:=b0L hj;intro e;subst this e;have h1:=h.1;rw[aU] at h1;cases h1
 | sub i k o z =>
  refine aM λ j hj=>?_;simp only[AV.refs] at hj;have:=b0L hj;intro e;subst this e;have h1:=h.1;rw[aU] at h1;cases h1
 | eB i k o z =>
  refine aM λ j hj=>?_;simp only[AV.refs] at hj;have:=b0L hj;intro e;subst this e;have h1:=h.1;rw[aU] at h1;cases h1
theorem yl(id:Nat)(u:AV):∀ l:List AV,AV.OM id u l=l.map (AV.BK id u)
 | []=>rfl
 | v::r=>congrArg _ (yl id u r)
theorem C1.BK{lk lk':Nat->Option aB}{id:Nat}{τ:Ty}{xs:List τ.den}(aU:lk id=some (.aE τ xs))(hT:ij w (G.η id) τ xs (G.φ id)){S':Nat->Prop}(hS:∀ b,G.S b->S' b)(hb:∀ b∈G.φ id,S' b)
  (bW:∀ j,j≠id->ew (lk j) (lk' j)) {v:AV} {x:Value} (h:C1 c G lk w v x):C1 c ⟨S',G.η,G.φ⟩ lk' w (AV.BK id (.aO ⟨.slice τ,xs⟩) v) x:=by
 have aM:(∀ j,v.refs j=true->j≠id)->C1 c ⟨S',G.η,G.φ⟩ lk' w v x:=λ hr=>h.mono (λ j hj=>⟨bW j (hr j hj),rfl⟩) hS (λ _ _=>rfl);have other:∀ i:Nat,(Nat.beq i id=false\/cS (lk i)=false)->(∀ j,v.refs j=true->Nat.beq i j=true)->C1 c ⟨S',G.η,G.φ⟩ lk' w v x:=λ i hi hr=>aM λ j hj e=>by
  have q:=b0L (hr j hj);subst q;subst e;rcases hi with hi|hi
  .simp at hi
  .rw[aU] at hi;cases hi
 cases v with
 | aE i =>
  simp only[AV.BK];split
  .rename_i hi;have hi:=b0L hi;subst hi;obtain⟨_,l,h2,_⟩:=h;exact⟨rfl,hT.rd h2 hb⟩
  .rename_i hi;exact other i (.inl hi) λ j hj=>hj
 | sub i k o z =>
  simp only[AV.BK];split
  .trivial
  .rename_i hi;exact other i (.inl hi) λ j hj=>hj
 | eB i k o z =>
  simp only[AV.BK];split
  .trivial
  .rename_i hi;exact other i (.inl hi) λ j hj=>hj
 | row i=>exact other i (.inr (pZ h.2.1)) λ j hj=>hj
 | ep i k off =>
  refine other i (.inr ?_) λ j hj=>hj;obtain⟨b,n,cap,e,aW,cK,_,h3,_⟩:=h;rw[h3];rfl
 | ptr i off =>
  refine other i (.inr ?_) λ j hj=>hj;obtain⟨b,_,_,h3⟩:=h;match hl:lk i,h3 with
  | some (.box _),_=>rfl
 | mp i=>exact other i (.inr (FB h.2.1)) λ j hj=>hj
 | agg cs=>exact h.elim
 | gK cs=>exact h.elim
 | cP f cs=>exact h.elim
 | gR v=>exact aM λ j hj=>by cases hj
 | any=>trivial
 | dX=>exact h
 | aO u=>exact aM λ j hj=>by cases hj
 | nil=>exact aM λ j hj=>by cases hj
 | cU u=>exact aM λ j hj=>by cases hj
 | fn f=>exact aM λ j hj=>by cases hj
structure Fx(F:AV->AV):Prop where
 aO:∀ v,F (.aO v) = .aO v
 agg:∀ cs,F (.agg cs) = .agg (cs.map F)
 gK:∀ cs,F (.gK cs) = .gK (cs.map F)
 cP:∀ f cs,F (.cP f cs) = .cP f (cs.map F)
 any:F .any = .any
 aE:∀ i,(∃ u,F (.aE i) = .aO u)\/F (.aE i) = .aE i
 cU:∀ v,F (.cU v) = .cU v
section
variable {F:AV->AV} {G':Gh} {lk lk':Nat->Option aB} (hF:Fx F) (hC:∀ v x,C1 c G lk w v x->C1 c G' lk' w (F v) x) (hS:∀ b,G.S b->G'.S b)
include hF hC hS
theorem CR.fx{v:AV}{x:Value}(h:CR c G lk w v x):CR c G' lk' w (F v) x:=by
 rcases h.inv with ⟨u,rfl,h1⟩|⟨cs,l,rfl,rfl,h1⟩|h1
 .rw[hF.aO];exact dI.mono h1 hS (λ _ _=>rfl)
 .rw[hF.agg];exact⟨l,rfl,aN.dG _ (h1.imp λ u y _ hy=>hC u y hy)⟩
 .exact (hC _ _ h1).We
theorem VR.fx{v:AV}{x:Value}(h:VR c G lk w v x):VR c G' lk' w (F v) x:=by
 have key:C1 c G lk w v x->VR c G' lk' w (F v) x:=λ q=>(hC v x q).fE;cases v with
 | aO u=>rw[hF.aO];exact dI.mono h hS (λ _ _=>rfl)
 | agg cs =>
  obtain⟨l,rfl,h2⟩:=h;rw[hF.agg];exact⟨l,rfl,aN.dG _ (h2.imp λ u y _ hy=>hC u y hy)⟩
 | gK vs =>
  obtain⟨l,rfl,h2⟩:=h;rw[hF.gK];refine⟨l,rfl,aN.dG _ (h2.imp λ u y _ hy=>?_)⟩;cases u with
  | any=>rw[hF.any];trivial
  | aO v=>rw[hF.aO];exact dI.mono hy hS (λ _ _=>rfl)
  | aE i =>
   have q:=hC (.aE i) y hy;rcases hF.aE i with ⟨u,e⟩|e<;>rw[e] at q ⊢
   .exact q.fE
   .exact q
  | agg cs =>
   obtain⟨l,rfl,h2⟩:=hy;rw[hF.agg];exact⟨l,rfl,aN.dG _ (h2.imp λ u y _ hy=>hC u y hy)⟩
  | cU v =>
   have q:=hC (.cU v) y hy;rw[hF.cU] at q ⊢;exact q
  | _=>exact hy.elim
 | cP f cs =>
  obtain⟨l,rfl,h2⟩:=h;rw[hF.cP];exact⟨l,rfl,aN.dG _ (h2.imp λ u y _ hy=>CR.fx hF hC hS hy)⟩
 | any=>rw[hF.any];trivial
 | _=>exact key h
end
theorem a3J(id:Nat)(u:TV):Fx (AV.ED id (.aO u)):=⟨λ _=>rfl,λ cs=>by rw[AV.ED,ym],λ cs=>by rw[AV.ED,ym],λ f cs=>by rw[AV.ED,ym],rfl,λ i => .inr rfl,λ _=>rfl⟩
theorem a3I(id:Nat)(u:TV):Fx (AV.BK id (.aO u)):=⟨λ _=>rfl,λ cs=>by rw[AV.BK,yl],λ cs=>by rw[AV.BK,yl],λ f cs=>by rw[AV.BK,yl],rfl,λ i=>by
 simp only[AV.BK];split
 .exact .inl ⟨u,rfl⟩
 .exact .inr rfl,λ _=>rfl⟩
def aB.eI(F:AV->AV):aB->aB
 | .box cs => .box (cs.map F)
 | o=>o
theorem Inv.fix(h:Inv c G s a w)(id:Nat)(F:AV->AV)(hF:Fx F)(B:Nat->Prop)(hB:∀ b,B b->(c.w0.heap.size<=b\/c.X b)/\b<w.heap.size/\(∀ i o,i≠id->s.ai i=some o->dw (G.η i)≠some b)/\∀ i τ xs,i≠id->s.ai i=some (.aE τ xs)->b∉G.φ i)
  (hC:∀ lk',(∀ j,j≠id->ew (s.ai j) (lk' j))->∀ v x,C1 c G s.ai w v x->C1 c ⟨λ b=>G.S b\/B b,G.η,G.φ⟩ lk' w (F v) x) :
  Inv c ⟨λ b=>G.S b\/B b,G.η,G.φ⟩ { aC:=s.aC.map F,aJ:=(bF id s.aJ).map λ p=>(p.1,p.2.eI F) } a w:=by
 have hS:∀ b,G.S b->G.S b\/B b:=λ b hb => .inl hb;have bW:∀ i,aj.ai { aC:=s.aC.map F,aJ:=(bF id s.aJ).map λ p=>(p.1,p.2.eI F) } i=(if i=id then none else s.ai i).map (aB.eI F):=by
  intro i;show ai ((bF id s.aJ).map _) i=_;rw[D5,er];rfl
 have fi:∀ j,j≠id->ew (s.ai j) (aj.ai { aC:=s.aC.map F,aJ:=(bF id s.aJ).map λ p=>(p.1,p.2.eI F) } j):=by
  intro j hj;rw[bW,b0N hj];refine⟨λ hh=>?_,λ e τ xs hh=>⟨e,xs,by rw[hh];rfl,b1d _⟩,λ hh=>?_,λ hh=>?_⟩
  .match hq:s.ai j,hh with
   | some (.box cs),_=>rfl
  .match hq:s.ai j,hh with
   | some (.aE τ xs),_=>rfl
  .match hq:s.ai j,hh with
   | some (.map m),_=>rfl
 have hC:=hC _ fi;have hinv:∀ i o,aj.ai { aC:=s.aC.map F,aJ:=(bF id s.aJ).map λ p=>(p.1,p.2.eI F) } i=some o->i≠id/\∃ o',s.ai i=some o'/\o=o'.eI F:=λ i o cr=>by
  rw[bW] at cr;simp only[b1s] at cr;obtain⟨o',cr,rfl⟩:=cr;by_cases hi:i=id
  .simp[hi] at cr
  .rw[b0N hi] at cr;exact⟨hi,o',cr,rfl⟩
 exact {
  defers:=h.defers
  size:=by rw[h.size];simp
  aM:=h.aM
  iQ:=h.iQ
  eh:=λ b hbl hx=>⟨λ hh=>by
   rcases hh with hh|hh
   .exact (h.eh b hbl hx).1 hh
   .exact (hB b hh).1.elim (λ q=>by omega) (λ q=>absurd q hx),λ hh => .inl ((h.eh b hbl hx).2 hh)⟩
  sX:=λ b hh => .inl (h.sX b hh)
  dE:=λ b hh=>by
   rcases hh with hh|hh
   .exact h.dE b hh
   .exact (hB b hh).2.1
  aC:=λ i=>by
   have he:aj.sl { aC:=s.aC.map F,aJ:=(bF id s.aJ).map λ p=>(p.1,p.2.eI F) } i=F (s.sl i):=by
    simp only[aj.sl,b0S,b2i];cases s.aC[i]? with
    | none=>exact hF.any.symm
    | some v=>rfl
   rw[he];exact VR.fx hF hC hS (h.aC i)
  aJ:=λ i o cr=>by
   obtain⟨hi,o',eo,rfl⟩:=hinv i o cr;have cH:=h.aJ i o' eo;cases o' with
   | box cs =>
    obtain⟨b,l,t,k1,k2,k3⟩:=cH;exact⟨b,l,t,k1,k2,aN.dG _ (k3.imp λ u y _ hy=>hC u y hy)⟩
   | row e2 jr lK =>
    obtain⟨l,k1,k2,k3⟩:=cH;exact⟨l,k1,dj.aM hS (λ _ _=>rfl) _ k2,k3⟩
   | aE jr lK=>trivial
   | map m=>exact cH
  place:=λ i o b cr gT=>by
   obtain⟨hi,o',eo,rfl⟩:=hinv i o cr;obtain⟨q1,q2,q3⟩:=h.place i o' b eo gT;exact⟨q1,λ hs=>hs.elim q2 λ hs=>(hB b hs).2.2.1 i o' hi eo gT,q3⟩
  apart:=λ i j o o2 b cr GZ rA lX=>by
   obtain⟨_,o',eo,rfl⟩:=hinv i o cr;obtain⟨_,o2',a8P,rfl⟩:=hinv j o2 GZ;exact h.apart i j o' o2' b eo a8P rA lX
  aR:=by
   have hold:∀ j jr lK,aj.ai { aC:=s.aC.map F,aJ:=(bF id s.aJ).map λ p=>(p.1,p.2.eI F) } j=some (.aE jr lK)->j≠id/\s.ai j=some (.aE jr lK):=λ j jr lK k=>by
    obtain⟨hj,o',GZ,e⟩:=hinv j _ k;refine⟨hj,?_⟩;match o',e with
    | .aE ..,e=>rw[GZ,e];rfl
    | .box _,e=>cases e
    | .row ..,e=>cases e
    | .map _,e=>cases e
   exact {
    tr:=λ j jr lK k=>h.aR.tr j jr lK (hold j jr lK k).2
    nd:=λ j jr lK k=>h.aR.nd j jr lK (hold j jr lK k).2
    pl:=λ j jr lK b k cv=>by
     obtain⟨hj,k⟩:=hold j jr lK k;obtain⟨q1,q2,q3,q4⟩:=h.aR.pl j jr lK b k cv;refine⟨q1,λ hs=>hs.elim q2 λ hs=>(hB b hs).2.2.2 j jr lK hj k cv,q3,λ i o cr=>?_⟩;obtain⟨_,o',eo,rfl⟩:=hinv i o cr;exact q4 i o' eo
    ap:=λ j j' jr a5N lK a5L b k k'=>h.aR.ap j j' jr a5N lK a5L b (hold j jr lK k).2 (hold j' a5N a5L k').2 }
  root:=λ i v hr ht=>h.root i v hr (by
   match hl:aj.ai { aC:=s.aC.map F,aJ:=(bF id s.aJ).map λ p=>(p.1,p.2.eI F) } i,ht with
   | some (.aE ..),_ =>
    obtain⟨_,o',cr,e⟩:=hinv i _ hl;match o',e with
    | .aE ..,e=>rw[cr];rfl
    | .box _,e=>cases e
    | .row ..,e=>cases e
    | .map _,e=>cases e)
  fP:=h.fP
  dq:=λ i v hr ht=>h.dq i v hr (by
   match hl:aj.ai { aC:=s.aC.map F,aJ:=(bF id s.aJ).map λ p=>(p.1,p.2.eI F) } i,ht with
   | some (.box _),_ =>
    obtain⟨_,o',cr,e⟩:=hinv i _ hl;match o',e with
    | .box _,e=>rw[cr];rfl
    | .aE ..,e=>cases e
    | .row ..,e=>cases e
    | .map _,e=>cases e)
  eG:=h.eG }
theorem ZP(id:Nat)(u:AV)(o:aB):o.ED id u=o.eI (AV.ED id u):=by
 cases o<;>simp[aB.ED,aB.eI,ym]
theorem ZO(id:Nat)(u:AV)(o:aB):o.BK id u=o.eI (AV.BK id u):=by
 cases o<;>simp[aB.BK,aB.eI,yl]
theorem Inv.freeze(h:Inv c G s a w)(id:Nat):∃ G',Inv c G' (s.freeze id) a w:=by
 unfold aj.freeze;split
 .rename_i e τ xs aU;have ho:=h.aJ id _ aU;rw[ym];simp only[ZP];exact⟨_,h.fix id _ (a3J id _) (λ b=>dw (G.η id)=some b) (λ b hb=>by
   obtain⟨q1,_,q3⟩:=h.place id _ b aU hb;exact⟨q1,q3,λ i o hi cr rA=>hi (h.apart i id o _ b cr aU rA hb),λ i τ xs _ k q=>(h.aR.pl i τ xs b k q).2.2.2 id _ aU hb⟩)
   λ lk' hs v x hv=>C1.ED aU ho (λ _ hb => .inl hb) (λ _ hb => .inr hb) hs hv⟩
 .rename_i τ xs aU;rw[yl];simp only[ZO];exact⟨_,h.fix id _ (a3I id _) (λ b=>b∈G.φ id) (λ b hb=>by
   obtain⟨q1,_,q3,q4⟩:=h.aR.pl id _ _ b aU hb;exact⟨q1,q3,λ i o _ cr=>q4 i o cr,λ i τ xs hi k q=>hi (h.aR.ap i id _ _ _ _ b k aU q hb)⟩)
   λ lk' hs v x hv=>C1.BK aU (h.aR.tr id _ _ aU) (λ _ hb => .inl hb) (λ _ hb => .inr hb) hs hv⟩
 .exact⟨G,h⟩
theorem Inv.CA:∀ (l:List Nat) {G:Gh} {s:aj},Inv c G s a w->∃ G',Inv c G' (l.foldl aj.freeze s) a w
 | [],G,s,h=>⟨G,h⟩
 | i::r,G,s,h=>by
  obtain⟨G',h'⟩:=h.freeze i;exact Inv.CA r h'
theorem D3{lk:Nat->Option aB}{v:AV}{x:Value}{K:Prop}(hv:VR c G lk w v x)(h:known v K):K:=by
 unfold known at h;split at h
 .rename_i n;obtain⟨_,h1,h2⟩:=hv;refine h ⟨?_,?_⟩
  .have:=h1;simp only[IntKind.min,IntKind.signed,IntKind.bits,b2G] at this;omega
  .have:=h2;simp only[IntKind.max,IntKind.signed,IntKind.bits,b2G] at this;omega
 .rename_i t xs;obtain⟨_,_,_,_,h1,_⟩:=iX hv;exact h h1
 .rename_i xs;obtain⟨s,_,h2,h3⟩:=hv;subst h2;exact h (by rw[b1K];exact h3)
 .exact h
theorem a5T{l:List Operand}{u v:AV}{ev:Operand->AV}(h:l.map ev=[u,v]){lk:Nat->Option aB}(cG:∀ x,VR c G lk w (ev x) (a.eval x)):∃ x y,l.map a.eval=[x,y]/\VR c G lk w u x/\VR c G lk w v y:=by
 have:=aN.jl cG l;rw[h] at this;match hl:l.map a.eval,this with
 | [x,y],hh=>exact⟨x,y,rfl,hh.1,hh.2.1⟩
theorem FA(hE:bp c.P c.E)(h:Inv c G s a w){o:Oper}{T:TypeId}{m k x:Operand}(bl:o.op = .mapUpdate T m k x\/o.op = .insert T m k x){vc:Vc}{s':aj}(he:D6 c.E s o.dst T m k x=some (vc,s'))(dY:vc.ok){Q:Exit->Act->World->Prop} :
  o.wp c.P a w (λ a' w'=>∃ G',Inv c G' s' a' w') Q:=by
 unfold D6 at he;split at he
 .rename_i κ ε hT;split at he
  .rename_i id v hm hx;split at he
   .rename_i m' k' x' aU hku Tw;split at he
    .rename_i f n hmm;simp only[Option.some.injEq,Prod.mk.injEq] at he;obtain⟨rfl,rfl⟩:=he;have e1:=MV.aT hmm;subst e1;have e3:=TV.aT Tw;subst e3;have q1:=aY h m;rw[hm] at q1;have q2:=xQ hku (aY h k);have q3:=aY h x;rw[hx] at q3;obtain⟨w',r1,r2⟩:=h.D6 hE hT aU q1 q2 q3 dY;unfold Oper.wp;have:(execOp a.eval o).run c.P w = .ok .skip w':=by
      rcases bl with bl|bl<;>simp only[execOp,bl,b1j,r1,b1c,b1k]
     rw[this];exact⟨G,Inv.put r2 trivial⟩
    .cases he
   .cases he
  .cases he
 .cases he
theorem WR(hE:bp c.P c.E)(h:Inv c G s a w){o:Oper}{vc:Vc}{s':aj}(he:S4 c.E s o=some (vc,s'))(dY:vc.ok){Q:Exit->Act->World->Prop} :
  o.wp c.P a w (λ a' w'=>∃ G',Inv c G' s' a' w') Q:=by
 unfold S4 at he;split at he
 .rename_i bl;exact FA hE h (.inl bl) he dY
 .rename_i bl;exact FA hE h (.inr bl) he dY
 .rename_i T ad x bl;split at he
  .rename_i τ r hT;have hp:=aY h ad;have hx:=aY h x;have fin:∀ w' G1 (s1:aj),(Instr.storeAt T (a.eval ad) (a.eval x)).run c.P w = .ok () w'->Inv c G1 s1 a w'->s'=s1.put o.dst .any->o.wp c.P a w (λ a' w'=>∃ G',Inv c G' s' a' w') Q:=by
    intro w' G1 s1 hr hi hs;unfold Oper.wp;have:(execOp a.eval o).run c.P w = .ok .skip w':=by simp only[execOp,bl,Sem.run_bind,hr,Result.andThen_ok,Sem.run_pure]
    rw[this];refine⟨G1,?_⟩;rw[hs];exact Inv.put hi trivial
   split at he
   .rename_i id off cG;split at he
    .rename_i cs aU;split at he
     .rename_i new oQ;split at he
      .rename_i dC yz;simp only[b0J,b0M] at he;obtain⟨rfl,rfl⟩:=he;rw[cG] at hp;obtain⟨w',k1,k2⟩:=h.store hE hT aU hp ⟨_,oQ,hx⟩ yz;exact fin w' _ _ k1 k2 rfl
      .cases he
     .cases he
    .cases he
   .rename_i id i cG;split at he
    .rename_i e' aW xs aU;split at he
     .rename_i y eF hy;have eF:=b1n eF;subst eF;simp only[b0J,b0M] at he;obtain⟨rfl,rfl⟩:=he;rw[cG] at hp;obtain⟨w',k1,k2⟩:=h.a0q hE hT aU hp hx hy;exact fin w' _ _ k1 k2 rfl
     .cases he
    .cases he
   .cases he
  .cases he
 .rename_i cl bl;split at he
  .rename_i fN;split at he
   .rename_i d T T' hd OV;split at he
    .rename_i τ b e OU hT;have OU:=b0L OU;subst OU;split at he
     .rename_i id y dP;split at he
      .rename_i e' aW xs ys aU hy;split at he
       .rename_i cK yw kq;have yw:=b0L yw;have e1:=TV.aT kq;cases e1;subst yw;simp only[b0J,b0M] at he;obtain⟨rfl,rfl⟩:=he;obtain⟨x,z,m1,m2,m3⟩:=a5T (a:=a) (c:=c) (G:=G) (w:=w) dP (aY h);obtain⟨v',w',G',k1,k2⟩:=h.append hE hT (d:=d) aU m2 m3 hy dY o.type;have II:cl.argTypes = #[T,T]:=by rw[<-b1M (xs:=cl.argTypes),OV]
        have CS:cl.args.map a.eval = #[x,z]:=by rw[<-b1M (xs:=cl.args.map a.eval),b2J,m1]
        unfold Oper.wp;have:(execOp a.eval o).run c.P w = .ok (.value v') w':=by
         simp[execOp,bl,resolve,fN,invoke,builtin,II,CS,k1]
        rw[this];refine⟨G',?_⟩;rw[hd];exact k2
       .cases he
      .cases he
     .cases he
    .cases he
   .cases he
  .cases he
 .cases he
theorem XA(hE:bp c.P c.E)(h:Inv c G s a w){o0:Oper}{vc:Vc}{v:AV}{ob:Option aB}(he:TM c.E s o0=some (vc,v,ob))(dY:vc.ok){Q:Exit->Act->World->Prop} :
  o0.wp c.P a w (vI c G s.sl s.aC.length s.ai o0.dst a w v ob) Q:=by
 unfold TM at he;split at he;case h_2=>cases he
 case h_1 cl bl =>
 split at he;case h_2=>cases he
 case h_1 f fN =>
 split at he;case h_2=>cases he
 case h_1 d hd =>
 split at he;case h_2=>cases he
 case h_1 Z9 has =>
 have key:∀ (T:Nat->Prop),(∀ x∈cl.args.toList.map a.eval,∀ q:Addr,x = .pointer (some q)->T q.block)->∀ pre o,c.E.PQ f Z9=some (pre,o)->pre.ok->o0.wp c.P a w (λ a' w'=>∃ x S',a'=a.put o0.dst x/\bh c ⟨S',G.η,G.φ⟩ s.sl s.aC.length s.ai a w' /\
   (∀ b,G.S b->S' b)/\(∀ b,dw x=some b->w.heap.size<=b/\b<w'.heap.size/\¬ S' b)/\a0y w' S' T x o) Q:=λ T hT pre o hc dY=>by
  obtain⟨px,jL⟩:=hE.PQ f Z9 pre o hc dY;unfold Oper.wp;rw[gA bl fN rfl px];simp only[Oper.upon];refine (jL w G.S T _ h.XV hT (gN hE h (Aq (λ _ _ h=>h)) (λ _ h=>h) (λ τ v x y h1 h2=>xR Ar wU h1 h2) has (aN.jl (aY h) _))).mono ?_;rintro e w' ⟨x,S',rfl,hk,OT,ZU,hb,hx⟩;exact⟨x,S',rfl,bh.grow h hk OT ZU,λ b hb=>(OT b (h.dE b hb)).2 hb,hb,hx⟩
 split at he;case h_4=>cases he
 case h_3 pre l hc =>
  split at he;case h_2=>cases he
  case h_1 cf =>
  simp only[b0J,b0M] at he;obtain⟨rfl,rfl,rfl⟩:=he;refine b2n ?_ (key (St c G.S) (λ x hx q hq=>?_) _ _ hc dY)
  .rintro a' w' ⟨x,S',rfl,hI,hS,hb,ys,rfl,EP⟩;refine⟨_,S',rfl,hI,ys.toArray.toList,rfl,aN.dG _ (EP.imp λ r y _ hy=>?_)⟩;obtain⟨bb,v⟩:=r;cases bb with
   | true =>
    obtain⟨b,o,cs,h1,h2,h3,h4⟩:=hy;exact⟨b,o,cs,h1,h2.elim .inl λ h2=>h2.imp (hS b) id,h3,h4⟩
   | false=>exact hy
  .obtain⟨y,hy,rfl⟩:=b0P.1 hx;have h1:=b1u.1 cf _ (b0P.2 ⟨y,hy,rfl⟩);have h2:=aY h y;generalize s.eval y=v at h1 h2;rw[hq] at h2;cases v with
   | cU u=>obtain⟨b,o,cs,e,h3,_⟩:=h2;cases e;exact h3
   | aO u =>
    obtain⟨τ,z⟩:=u;cases τ with
    | int k=>obtain⟨e,_⟩:=h2;cases e
    | bool=>have e:[Value.pointer (some q)]=[.bool z]:=h2;cases e
    | str=>obtain⟨_,e,_⟩:=h2;cases e
    | slice t=>obtain⟨_,_,e,_⟩:=h2;cases e
    | st s=>obtain⟨_,e,_⟩:=h2;cases e
    | mv t=>cases z with
     | none=>obtain⟨_,_,_,e⟩:=h2;cases e
     | some z=>obtain⟨_,_,e,_⟩:=h2;cases e
    | ptr=>cases h1
   | _=>cases h1
 case h_1 pre cells hc =>
  simp only[b0J,b0M] at he;obtain⟨rfl,rfl,rfl⟩:=he;refine b2n ?_ (key (λ _=>True) (λ _ _ _ _=>trivial) _ _ hc dY);rintro a' w' ⟨x,S',rfl,hI,_,hb,b,l,t,rfl,hh,iP⟩;exact⟨_,S',rfl,hI,⟨d,hd,rfl⟩,⟨b,l,t,rfl,hh,aN.dG _ (iP.imp λ u y _ hy=>hy)⟩,hb⟩
 case h_2 pre e τ xs hc =>
  simp only[b0J,b0M] at he;obtain⟨rfl,rfl,rfl⟩:=he;refine b2n ?_ (key (λ _=>True) (λ _ _ _ _=>trivial) _ _ hc dY);rintro a' w' ⟨x,S',rfl,hI,_,hb,l,h1,h2,h3⟩;exact⟨_,S',rfl,hI,⟨d,hd,rfl⟩,⟨l,h1,h2,h3⟩,hb⟩
theorem Jt(hE:bp c.P c.E)(h:Inv c G s a w){o:Oper}{K:aj->Prop}(hr:jN c.E o K s){Q:Exit->Act->World->Prop} :
  o.wp c.P a w (λ a' w'=>∃ G' s',Inv c G' s' a' w'/\K s') Q:=by
 unfold jN at hr;split at hr
 .exact hr.elim
 rename_i GW;obtain⟨G1,h1⟩:=h.CA (jG c.E s o);generalize (jG c.E s o).foldl aj.freeze s=s1 at *
 simp only at hr;split at hr
 .rename_i vc s' he;exact b2n (λ a' w' ⟨G',hg⟩=>⟨G',s',hg,(Vc.ja hr).2⟩) (XY hE h1 he (Vc.ja hr).1)
 split at hr
 .rename_i vc s' he;exact b2n (λ a' w' ⟨G',hg⟩=>⟨G',s',hg,(Vc.ja hr).2⟩) (WK hE h1 he (Vc.ja hr).1)
 split at hr
 .rename_i vc s' he;exact b2n (λ a' w' ⟨G',hg⟩=>⟨G',s',hg,(Vc.ja hr).2⟩) (WR hE h1 he (Vc.ja hr).1)
 .split at hr
  .rename_i vc s' he;exact b2n (λ a' w' ⟨G',hg⟩=>⟨G',s',hg,(Vc.ja hr).2⟩) (XF hE h1 he (Vc.ja hr).1)
  split at hr
  .rename_i vc v ob he;refine b2n ?_ (XA hE h1 he (Vc.ja hr).1);intro a' w' hd;obtain⟨G',hl⟩:=Py h1 GW hd;exact⟨G',_,hl,(Vc.ja hr).2⟩
  .split at hr
   .rename_i vc v ob hq;obtain⟨dY,hk⟩:=Vc.ja hr;refine b2n ?_ (Hw hE h1 (λ _ _ h=>h) (aY h1) hq dY);intro a' w' hd;obtain⟨G',hl⟩:=Py h1 GW hd;refine⟨G',_,hl,?_⟩;split at hk
    .obtain⟨x,S',_,_,hx⟩:=hd;cases ob with
     | none=>exact D3 hx hk
     | some ob =>
      obtain⟨hL,_⟩:=hx;cases ob with
      | box cs=>obtain⟨i,_,rfl⟩:=hL;exact hk
      | row e τ xs=>obtain⟨i,_,rfl⟩:=hL;exact hk
      | aE τ xs=>exact hL.elim
      | map m=>obtain⟨i,_,rfl⟩:=hL;exact hk
    .exact hk
   .exact hr.elim
theorem W0{t:Array Value}{i:Nat}{b:Bool}(h:t.getD i undef = .bool b):t[i]?=some (.bool b):=by
 rw[b1t] at h;cases hx:t[i]? with
 | none=>rw[hx] at h;simp[undef] at h
 | some v=>rw[hx] at h;simpa using h
theorem GS{ops:Array Oper}{g t:Nat}{b:Bool}(ht:uh ops g=some t)(hx:VR c G s.ai w (.aO ⟨.bool,b⟩) (a.eval (.tmp t))):yielded ops a.tmps g=some b:=by
 have hb:[a.eval (.tmp t)]=[.bool b]:=hx;simp only[List.cons.injEq,and_true] at hb;have:=W0 hb;unfold yielded;rw[show (ops[g]?).bind (·.dst)=some t from ht];simp[this]
theorem CF{ops:Array Oper}{g t:Nat}(ht:uh ops g=some t)(hx:VR c G s.ai w .dX (a.eval (.tmp t))):yielded ops a.tmps g=none:=by
 have hb:a.eval (.tmp t)=undef:=hx;have hb:a.tmps.getD t undef=undef:=hb;unfold yielded;rw[show (ops[g]?).bind (·.dst)=some t from ht];rw[Array.getD_eq_getD_getElem?] at hb;cases hx:a.tmps[t]? with
 | none=>simp[hx]
 | some v =>
  rw[hx] at hb;have hv:v=undef:=hb;subst hv;simp[hx,undef]
theorem Inv.slot(h:Inv c G s a w)(t:Nat){b b':Bool}(he:s.eval (.tmp t) = .aO ⟨.bool,b⟩)(hb:b=b'):Inv c G (s.put (some t) (.aO ⟨.bool,b'⟩)) a w:=by
 have:s.put (some t) (.aO ⟨.bool,b'⟩)=s\/(s.put (some t) (.aO ⟨.bool,b'⟩)).sl=s.sl:=by
  right;rw[Zd];funext i;unfold iY;split
  .rename_i hi;obtain⟨h1,h2⟩:=hi;simp only[b0J] at h1;subst h1;rw[<-hb,<-he];rfl
  .rfl
 rcases this with e|e
 .rw[e];exact h
 .unfold Inv;rw[e,RY,L6];exact h
theorem zz(hE:bp c.P c.E){ops:Array Oper}{Q:aj->Prop}{o:Oper}{r:List Oper}{kn:List (Nat×Bool)}(h:Inv c G s a w)(hr:eP c.E ops (o::r) kn Q s) :
  if Region.wanted o (yielded ops a.tmps)=true then ∀ Q':Exit->Act->World->Prop,o.wp c.P a w (λ a' w'=>∃ G' s' na,Inv c G' s' a' w'/\eP c.E ops r na Q s') Q'
  else ∃ G' s' na,Inv c G' s' (a.put o.dst undef) w/\eP c.E ops r na Q s':=by
 have run:∀ (kn:List (Nat×Bool)) (s:aj),Inv c G s a w->jN c.E o (eP c.E ops r kn Q) s->∀ Q':Exit->Act->World->Prop,o.wp c.P a w (λ a' w'=>∃ G' s' na,Inv c G' s' a' w'/\eP c.E ops r na Q s') Q':=λ kn s hs cE Q' =>
  b2n (λ a' w' ⟨G',s',h1,h2⟩=>⟨G',s',kn,h1,h2⟩) (Jt hE hs cE)
 have skip:∀ (kn:List (Nat×Bool)) (s:aj),Inv c G s a w->eP c.E ops r kn Q (s.put o.dst .dX)->∃ G' s' na,Inv c G' s' (a.put o.dst undef) w/\eP c.E ops r na Q s':=λ kn s hs hk =>
  ⟨G,_,kn,Inv.put (v := .dX) hs rfl,hk⟩
 simp only[eP] at hr;split at hr
 .rename_i hg;have hw:Region.wanted o (yielded ops a.tmps)=true:=by simp[Region.wanted,hg]
  rw[b0T hw];exact run kn s h hr
 .rename_i g want hg;split at hr
  .exact hr.elim
  .rename_i t ht;split at hr
   .rename_i b hb;split at hr
    .rename_i b' cG;have hx:=aY h (.tmp t);rw[cG] at hx;have hy:=GS (s:=s) ht hx;split at hr
     .rename_i gT CH;have gT:=eq_of_beq gT;subst gT;have hw:Region.wanted o (yielded ops a.tmps)=true:=by simp[Region.wanted,hg,hy];simpa using CH
      rw[b0T hw];exact run kn s h hr
     .rename_i gT CH;have gT:=eq_of_beq gT;subst gT;have hw:Region.wanted o (yielded ops a.tmps)=false:=by simp[Region.wanted,hg,hy];simpa using CH
      rw[hw];exact skip kn s h hr
     .exact hr.elim
    .rename_i cG;have hx:=aY h (.tmp t);rw[cG] at hx;have hy:=CF (s:=s) ht hx;have hw:Region.wanted o (yielded ops a.tmps)=false:=by simp[Region.wanted,hg,hy]
     rw[hw];exact skip kn s h hr
    .exact hr.elim
   .split at hr
    .rename_i b cG;have hx:=aY h (.tmp t);rw[cG] at hx;have hy:=GS (s:=s) ht hx;by_cases CH:b=want
     .have hw:Region.wanted o (yielded ops a.tmps)=true:=by simp[Region.wanted,hg,hy,CH]
      rw[b0T hw];exact run _ _ (h.slot t cG CH) (hr.1 CH)
     .have W7:b = !want:=by cases b<;>cases want<;>simp_all
      have hw:Region.wanted o (yielded ops a.tmps)=false:=by simp[Region.wanted,hg,hy,W7]
      rw[hw];exact skip _ _ (h.slot t cG W7) (hr.2 W7)
    .rename_i cG;have hx:=aY h (.tmp t);rw[cG] at hx;have hy:=CF (s:=s) ht hx;have hw:Region.wanted o (yielded ops a.tmps)=false:=by simp[Region.wanted,hg,hy]
     rw[hw];exact skip kn s h hr
    .exact hr.elim
theorem xf(hE:bp c.P c.E){ops:Array Oper}{Q:aj->Prop}{Q':Exit->Act->World->Prop}(hQ:∀ G s a w,Inv c G s a w->Q s->Q' .normal a w) :
  ∀ (r:List Oper) (i:Nat) (kn:List (Nat×Bool)) (G:Gh) (s:aj) (a:Act) (w:World),(∀ j o,r[j]?=some o->ops[i+j]?=some o)->Inv c G s a w->eP c.E ops r kn Q s->wpOps c.P ops Q' (List.range' i r.length) a w
 | [],i,kn,G,s,a,w,_,h,hr=>hQ G s a w h hr
 | o::r,i,kn,G,s,a,w,a5k,h,hr=>by
  have ho:ops[i]?=some o:=a5k 0 o rfl;have um:∀ j p,r[j]?=some p->ops[i+1+j]?=some p:=λ j p hj=>by
   have:=a5k (j+1) p (by simpa using hj);rwa [show i+(j+1)=i+1+j by omega] at this
  simp only[b0W,List.range'_succ,wpOps,ho];have ur:=zz hE h hr;split at ur
  .rename_i hw;rw[b0T hw];exact .inl (b2n (λ a' w' ⟨G',s',na,h1,h2⟩=>xf hE hQ r (i+1) na G' s' a' w' um h1 h2) (ur Q'))
  .rename_i hw;rw[b0N hw];obtain⟨G',s',na,h1,h2⟩:=ur;exact xf hE hQ r (i+1) na G' s' _ w um h1 h2
end
structure JR where
 EY:Bool
 v:AV
 ob:Option aB
def GV(want EY:Bool):AV->Prop
 | .aO ⟨.bool,b⟩=>EY=(b == want)
 | .dX=>EY=false
 | _=>False
def fM(l:List Oper)(bits:Nat)(s:aj)(o:Oper)(EY:Bool):Prop :=
 match o.guard with
 | none=>EY=true
 | some (g,want)=>∃ t v,cq l g=some t/\Nat.testBit bits g=true/\s.eval (.tmp t)=v/\GV want EY v
def NV(E:Env)(l:List Oper)(m bits:Nat)(s:aj)(o:Oper)(e:JR):Prop :=
 fM l bits s o e.EY/\(e.EY=true->∃ vc:Vc,Hv E (Nf l m bits s) (QN l m bits s) o=some (vc,e.v,e.ob)/\vc.ok)/\(e.EY=false->e.v = .dX/\e.ob=none)
def Trace(E:Env)(l:List Oper)(m:Nat)(bR:List Nat):Nat->List Oper->List JR->aj->aj->Prop
 | _,[],[],s,s'=>s=s'
 | i,o::r,e::es,s,s'=>NV E l m (bR.getD i 0) s o e/\Trace E l m bR (i+1) r es (s.iH o.dst e.v e.ob) s'
 | _,_,_,_,_=>False
def R3{s:aj}{t:Nat}{v:AV}(h:s.eval (.tmp t)=v)(hv:v ≠ .any):s.put (some t) v=s:=by
 have bz:t<s.aC.length:=by
  rcases b1w t s.aC.length with hl|hl
  .exact hl
  .simp only[aj.eval,b0S,b3r hl,Option.getD_none] at h;exact absurd h.symm hv
 simp only[aj.eval,b0S,b1a bz,b3g] at h;simp only[aj.put];congr 1;subst h;exact List.set_getElem_self bz
def KS(s:aj)(d:Option Nat):s.iH d .dX none=s.put d .dX:=by cases d<;>rfl
def pS{E:Env}{l:List Oper}{m:Nat}{bR:List Nat}{Q:List (Nat×Bool)->aj->Prop}:∀ {r:List Oper} {i:Nat} {kn:List (Nat×Bool)} {s:aj},lb E l m bR i r kn Q s ->
  ∃ es na s',Trace E l m bR i r es s s'/\Q na s'
 | [],i,kn,s,h=>⟨[],kn,s,rfl,h⟩
 | o::r,i,kn,s,h=>by
  have run:∀ kn,fM l (bR.getD i 0) s o true->Ju E l m (bR.getD i 0) o (lb E l m bR (i+1) r kn Q) s->∃ es na s',Trace E l m bR i (o::r) es s s'/\Q na s':=by
   intro kn hg hr;unfold Ju at hr;split at hr
   .split at hr
    .rename_i vc v ob hq;obtain⟨es,na,s',h1,h2⟩:=pS (Vc.ja hr).2;exact⟨⟨true,v,ob⟩::es,na,s',⟨⟨hg,λ _=>⟨vc,hq,(Vc.ja hr).1⟩,λ h=>(by cases h)⟩,h1⟩,h2⟩
    .exact hr.elim
   .exact hr.elim
  have skip:∀ kn,fM l (bR.getD i 0) s o false->lb E l m bR (i+1) r kn Q (s.put o.dst .dX)->∃ es na s',Trace E l m bR i (o::r) es s s'/\Q na s':=by
   intro kn hg hr;obtain⟨es,na,s',h1,h2⟩:=pS hr;exact⟨⟨false, .dX,none⟩::es,na,s',⟨⟨hg,λ h=>(by cases h),λ _=>⟨rfl,rfl⟩⟩,by rw[KS];exact h1⟩,h2⟩
  simp only[lb] at h;split at h
  .rename_i hg;exact run kn (by simp[fM,hg]) h
  .rename_i g want hg;split at h
   .rename_i t ht RP;split at h
    .rename_i b hb;split at h
     .rename_i b' cG;split at h
      .rename_i gT CH;have gT:=eq_of_beq gT;subst gT;exact run kn (by simp only[fM,hg];exact⟨t,_,ht,RP,cG,CH.symm⟩) h
      .rename_i gT CH;have gT:=eq_of_beq gT;subst gT;exact skip kn (by simp only[fM,hg];exact⟨t,_,ht,RP,cG,CH.symm⟩) h
      .exact h.elim
     .rename_i cG;exact skip kn (by simp only[fM,hg];exact⟨t,_,ht,RP,cG,rfl⟩) h
     .exact h.elim
    .split at h
     .rename_i b cG;by_cases CH:b=want
      .have h':=h.1 CH;subst CH;rw[R3 cG (by simp)] at h';exact run _ (by simp only[fM,hg];exact⟨t,_,ht,RP,cG,by simp[GV]⟩) h'
      .have W7:b = !want:=by cases b<;>cases want<;>simp_all
       have h':=h.2 W7;rw[<-W7,R3 cG (by simp)] at h';exact skip _ (by simp only[fM,hg];exact⟨t,_,ht,RP,cG,by simpa [GV] using CH⟩) h'
     .rename_i cG;exact skip kn (by simp only[fM,hg];exact⟨t,_,ht,RP,cG,rfl⟩) h
     .exact h.elim
   .exact h.elim
def dL(l:List Oper)(es:List JR)(s0:aj)(π:List Nat):aj :=
 π.foldl (λ s k=>s.iH (cq l k) (es.getD k ⟨false, .any,none⟩).v (es.getD k ⟨false, .any,none⟩).ob) s0
def KU(s:aj)(d:Option Nat)(v:AV)(o:Option aB):(s.iH d v o).aC.length=s.aC.length:=by cases d<;>simp[aj.iH]
def I5(l:List Oper)(es:List JR):∀ (π:List Nat) (s0:aj),(dL l es s0 π).aC.length=s0.aC.length
 | [],_=>rfl
 | k::π,s0=>by
  show (dL l es (s0.iH _ _ _) π).aC.length=_;rw[I5 l es π,KU]
def Jx(s:aj)(d:Option Nat)(v:AV)(o:Option aB):(s.iH d v o).sl=iY s.aC.length s.sl d v:=by
 cases d with
 | none=>funext i;simp[aj.iH,iY]
 | some d=>exact oB s.aC d v _
def Ao(s:aj)(d:Option Nat)(v:AV)(o:Option aB)(j:Nat):(s.iH d v o).ai j=if d=some j then (match o with
  | some o=>some o
  | none=>s.ai j) else s.ai j:=by
 cases d with
 | none=>simp[aj.iH]
 | some d =>
  cases o with
  | none =>
   simp only[aj.iH,aj.ai,ite_self]
  | some o =>
   show ai ((d,o)::s.aJ) j=_;rw[dx];by_cases h:j=d
   .subst h;simp
   .have:¬ (some d=some j):=by simp;exact λ e=>h e.symm
    rw[b0N h,b0N this];rfl
def fY(l:List Oper)(es:List JR)(t:Nat):∀ (π:List Nat) (s0:aj),(∀ k∈π,cq l k≠some t)->(dL l es s0 π).sl t=s0.sl t/\(dL l es s0 π).ai t=s0.ai t
 | [],_,_=>⟨rfl,rfl⟩
 | k::π,s0,h=>by
  obtain⟨h1,h2⟩:=fY l es t π (s0.iH (cq l k) (es.getD k ⟨false, .any,none⟩).v (es.getD k ⟨false, .any,none⟩).ob) (λ j hj=>h j (by simp[hj]));have hk:=h k (by simp);constructor
  .show (dL l es (s0.iH _ _ _) π).sl t=_;rw[h1,Jx,iY,b0N (λ hh=>hk hh.1)]
  .show (dL l es (s0.iH _ _ _) π).ai t=_;rw[h2,Ao,b0N hk]
def uY(l:List Oper)(es:List JR)(t k:Nat)(hk:cq l k=some t):∀ (π:List Nat) (s0:aj),k∈π->π.Nodup->(∀ j∈π,j≠k->cq l j≠some t) ->
  (dL l es s0 π).sl t=(if t<s0.aC.length then (es.getD k ⟨false, .any,none⟩).v else s0.sl t) /\
  (dL l es s0 π).ai t=(match (es.getD k ⟨false, .any,none⟩).ob with
   | some o=>some o
   | none=>s0.ai t)
 | [],_,h,_,_=>by simp at h
 | j::π,s0,h,hn,ho=>by
  have sS:=b1q.1 hn;by_cases hj:j=k
  .subst hj;obtain⟨h1,h2⟩:=fY l es t π (s0.iH (cq l j) (es.getD j ⟨false, .any,none⟩).v (es.getD j ⟨false, .any,none⟩).ob) (λ i hi=>ho i (by simp[hi]) (λ e=>by subst e;exact sS.1 hi));constructor
   .show (dL l es (s0.iH _ _ _) π).sl t=_;rw[h1,Jx,iY];simp[hk]
   .show (dL l es (s0.iH _ _ _) π).ai t=_;rw[h2,Ao,b0T hk]
  .have IP:=ho j (by simp) hj;obtain⟨h1,h2⟩:=uY l es t k hk π (s0.iH (cq l j) (es.getD j ⟨false, .any,none⟩).v (es.getD j ⟨false, .any,none⟩).ob) (by simpa [Ne.symm hj] using h) sS.2 (λ i hi=>ho i (by simp[hi]));constructor
   .show (dL l es (s0.iH _ _ _) π).sl t=_;rw[h1,KU,Jx,iY,b0N (c:=cq l j=some t/\_) (λ hh=>IP hh.1)]
   .show (dL l es (s0.iH _ _ _) π).ai t=_;rw[h2];split
    .rfl
    .rw[Ao,b0N IP]
def Qi{l:List Oper}{es:List JR}{m bits:Nat}{s0:aj}{π π':List Nat}(nV:∀ j k t,j<m->k<m->cq l j=some t->cq l k=some t->j=k)
  (Xn:∀ k∈π,k<m) (Pg:∀ k∈π',k<m) (hn:π.Nodup) (sS:π'.Nodup) (ha:∀ k,k<m->Nat.testBit bits k=true->k∈π/\k∈π') (t:Nat) (hh:hidden l m bits t=false) :
  (dL l es s0 π).sl t=(dL l es s0 π').sl t/\(dL l es s0 π).ai t=(dL l es s0 π').ai t:=by
 by_cases hex:∃ k,k<m/\cq l k=some t
 .obtain⟨k,hk,hd⟩:=hex;have hb:Nat.testBit bits k=true:=by
   have:=hh;unfold hidden at this;rw[List.any_eq_false] at this;have:=this k (by simpa using hk);simp only[hd] at this;simp only[Nat.beq_refl] at this;simpa using this
  obtain⟨h1,h2⟩:=ha k hk hb;obtain⟨e1,e2⟩:=uY l es t k hd π s0 h1 hn (λ j hj dD BP=>dD (nV j k t (Xn j hj) hk BP hd));obtain⟨e3,e4⟩:=uY l es t k hd π' s0 h2 sS (λ j hj dD BP=>dD (nV j k t (Pg j hj) hk BP hd));exact⟨e1.trans e3.symm,e2.trans e4.symm⟩
 .have iF:∀ k,k<m->cq l k≠some t:=λ k hk hd=>hex ⟨k,hk,hd⟩;obtain⟨e1,e2⟩:=fY l es t π s0 (λ k hk=>iF k (Xn k hk));obtain⟨e3,e4⟩:=fY l es t π' s0 (λ k hk=>iF k (Pg k hk));exact⟨e1.trans e3.symm,e2.trans e4.symm⟩
def DM(acc:List Nat)(k:Nat):∀ (es:List Edge) (s:Nat),Nat.testBit (es.foldl (te acc) s) k=true->Nat.testBit s k=true\/∃ e∈es,Region.binds .any e=true/\(k=e.on\/Nat.testBit (acc.getD e.on 0) k=true)
 | [],s,h => .inl h
 | e::es,s,h=>by
  simp only[b2N] at h;rcases DM acc k es _ h with h|⟨e',yw,h⟩
  .unfold te at h;split at h
   .rename_i hb;simp only[Nat.testBit_or,b2m] at h;rcases h with h|h|h
    .exact .inl h
    .refine .inr ⟨e,by simp,hb, .inl ?_⟩;rw[Nat.one_shiftLeft,Nat.testBit_two_pow] at h;exact (b1n h).symm
    .exact .inr ⟨e,by simp,hb, .inr h⟩
   .exact .inl h
  .exact .inr ⟨e',by simp[yw],h⟩
def vK:∀ (l:List Oper) (acc:List Nat),∃ r,bL l acc=acc++r/\r.length=l.length /\
  ∀ i o,l[i]?=some o->∀ k,Nat.testBit ((acc++r).getD (acc.length+i) 0) k=true->∃ e∈o.after.toList,Region.binds .any e=true/\(k=e.on\/(e.on<acc.length+i/\Nat.testBit ((acc++r).getD e.on 0) k=true))
 | [],acc=>⟨[],by simp[bL],rfl,by simp⟩
 | o::l,acc=>by
  simp only[bL];obtain⟨r,h1,h2,h3⟩:=vK l (acc++[o.after.toList.foldl (te acc) 0]);refine⟨_::r,by rw[h1,b1o];rfl,by simp[h2],λ i p hp k hk=>?_⟩;cases i with
  | zero =>
   simp at hp;subst hp;have eX:Nat.testBit (o.after.toList.foldl (te acc) 0) k=true:=by
    simpa [List.getD_eq_getElem?_getD] using hk
   rcases DM acc k _ 0 eX with h|⟨e,he,hb,h⟩
   .simp at h
   .refine⟨e,he,hb,h.imp id λ h=>?_⟩;have bz:e.on<acc.length:=by
     rcases b1w e.on acc.length with hl|hl
     .exact hl
     .simp[b0S,b3r hl] at h
    refine⟨by omega,?_⟩;rw[b0S,b1R bz,<-b0S];exact h
  | succ i =>
   have:=h3 i p (by simpa using hp) k (by
    have e1:(acc++[o.after.toList.foldl (te acc) 0]).length+i=acc.length+(i+1):=by simp;omega
    rw[e1,b1o];exact hk)
   obtain⟨e,he,hb,h⟩:=this;refine⟨e,he,hb,h.imp id λ ⟨h1,h2⟩=>⟨by simp at h1;omega,?_⟩⟩;rw[b1o] at h2;exact h2
def xI:∀ (l:List Nat) (i m0:Nat),m0<=i->mq l i m0<=i+l.length/\m0<=mq l i m0/\∀ j b,l[j]?=some b->mq l i m0<=i+j->b+1=2 ^ (i+j)
 | [],i,m0,h=>by simp[mq];exact h
 | b::l,i,m0,h=>by
  simp only[mq];split
  .rename_i hb;have hb:=b0L hb;obtain⟨h1,h2,h3⟩:=xI l (i+1) m0 (by omega);refine⟨by simp;omega,h2,λ j b' hj hle=>?_⟩;cases j with
   | zero=>simp at hj;subst hj;exact hb
   | succ j=>rw[show i+(j+1)=i+1+j by omega];exact h3 j b' (by simpa using hj) (by omega)
  .obtain⟨h1,h2,h3⟩:=xI l (i+1) (i+1) (b1d _);refine⟨by simp;omega,by omega,λ j b' hj hle=>?_⟩;cases j with
   | zero=>omega
   | succ j=>rw[show i+(j+1)=i+1+j by omega];exact h3 j b' (by simpa using hj) (by omega)
theorem tj(l:List Oper)(es:List JR)(s0:aj)(π:List Nat)(i:Nat):dL l es s0 (π++[i])=(dL l es s0 π).iH (cq l i) (es.getD i ⟨false, .any,none⟩).v (es.getD i ⟨false, .any,none⟩).ob:=by
 simp[dL,b2Y]
theorem Sf{E:Env}{l:List Oper}{m:Nat}{bR:List Nat}{s0:aj}:∀ (r:List Oper) (i:Nat) (es xi:List JR) (s s':aj),Trace E l m bR i r es s s'->(∀ j o,r[j]?=some o->l[i+j]?=some o)->xi.length=i ->
  s=dL l (xi++es) s0 (List.range i) ->
  (∀ j o,r[j]?=some o->NV E l m (bR.getD (i+j) 0) (dL l (xi++es) s0 (List.range (i+j))) o ((xi++es).getD (i+j) ⟨false, .any,none⟩))/\s'=dL l (xi++es) s0 (List.range (i+r.length))
 | [],i,[],xi,s,s',h,_,_,hs=>by
  have h:s=s':=h;subst h;exact⟨by simp,by simpa using hs⟩
 | o::r,i,e::es,xi,s,s',h,hl,h0,hs=>by
  obtain⟨h1,h2⟩:=h;have ho:l[i]?=some o:=hl 0 o rfl;have LX:(xi++e::es).getD i ⟨false, .any,none⟩=e:=by simp[b0S,<-h0]
  have cf:s.iH o.dst e.v e.ob=dL l ((xi++[e])++es) s0 (List.range (i+1)):=by
   rw[b1o,b4N,tj,b3s,LX,<-hs];simp[cq,ho]
  have ih:=Sf r (i+1) es (xi++[e]) _ s' h2 (λ j p hj=>by
   have:=hl (j+1) p (by simpa using hj);rwa [show i+(j+1)=i+1+j by omega] at this) (by simp[h0]) cf
  rw[b1o,b3s] at ih;refine⟨λ j p hj=>?_,by rw[ih.2];congr 2;simp;omega⟩;cases j with
  | zero =>
   simp at hj;subst hj;rw[b2L,LX,<-hs];exact h1
  | succ j =>
   have:=ih.1 j p (by simpa using hj);rwa [show i+1+j=i+(j+1) by omega] at this
 | [],_,_::_,_,_,_,h,_,_,_=>h.elim
 | _::_,_,[],_,_,_,h,_,_,_=>h.elim
theorem th:∀ (m:Nat) (π:List Nat),π.Nodup->(∀ k∈π,k<m)->π.length<=m
 | 0,π,_,h=>by
  cases π with
  | nil=>simp
  | cons k r=>exact absurd (h k (by simp)) (by omega)
 | m+1,π,hn,h=>by
  by_cases hm:m∈π
  .have h1:=th m (π.erase m) (hn.erase m) (λ k hk=>by
    have h2:=(hn.mem_erase_iff).1 hk;have:=h k h2.2;have:=h2.1;omega)
   have h3:=b2O hm;have:0<π.length:=b2V hm;omega
  .have:=th m π hn (λ k hk=>by
    have:=h k hk;have:k≠m:=λ e=>by subst e;exact hm hk
    omega)
   omega
section
variable {c:Ctx} {G:Gh} {s:aj} {a:Act} {w w':World}
theorem C1.dS{lk:Nat->Option aB}{v:AV}{x:Value}(h:C1 c G lk w v x){d:Nat}(hr:v.refs d=true):lk d≠none:=by
 cases v with
 | ptr i o =>
  have:=b0L (show Nat.beq i d=true from hr);subst this;obtain⟨_,_,_,h3⟩:=h;intro e;rw[e] at h3;cases h3
 | row i =>
  have:=b0L (show Nat.beq i d=true from hr);subst this;obtain⟨_,h3,_⟩:=h;intro e;rw[e] at h3;cases h3
 | ep i k o =>
  have:=b0L (show Nat.beq i d=true from hr);subst this;obtain⟨_,_,_,_,_,_,_,h3,_⟩:=h;intro e;rw[e] at h3;cases h3
 | aE i =>
  have:=b0L (show Nat.beq i d=true from hr);subst this;intro e;have h1:=h.1;rw[e] at h1;cases h1
 | sub i k o z =>
  have:=b0L (show Nat.beq i d=true from hr);subst this;intro e;have h1:=h.1;rw[e] at h1;cases h1
 | eB i k o z =>
  have:=b0L (show Nat.beq i d=true from hr);subst this;intro e;have h1:=h.1;rw[e] at h1;cases h1
 | mp i =>
  have:=b0L (show Nat.beq i d=true from hr);subst this;intro e;have h1:=h.2.1;rw[e] at h1;cases h1
 | agg cs=>exact h.elim
 | gK cs=>exact h.elim
 | cP f cs=>exact h.elim
 | _=>cases hr
theorem nA{d:Nat}:∀ {cs:List AV},AV.fL d cs=true->∃ v∈cs,v.refs d=true
 | v::r,h=>by
  simp only[AV.fL] at h;split at h
  .rename_i hv;exact⟨v,by simp,hv⟩
  .obtain⟨u,hu,hr⟩:=nA h;exact⟨u,by simp[hu],hr⟩
theorem aN.mem_left{α β:Type}{R:α->β->Prop}:∀ {Z9:List α} {bs:List β},aN R Z9 bs->∀ x∈Z9,∃ y,R x y
 | _::_,b::_,h,x,hx=>by
  rcases b0X.1 hx with rfl|hx
  .exact⟨b,h.1⟩
  .exact aN.mem_left h.2 x hx
theorem VR.dS{lk:Nat->Option aB}{v:AV}{x:Value}(h:VR c G lk w v x){d:Nat}(hr:v.refs d=true):lk d≠none:=by
 cases v with
 | aO u=>cases hr
 | agg cs =>
  obtain⟨l,_,hl⟩:=h;obtain⟨u,hu,CQ⟩:=nA (show AV.fL d cs=true from hr);obtain⟨y,hy⟩:=hl.mem_left u hu;exact hy.dS CQ
 | gK vs =>
  obtain⟨l,_,hl⟩:=h;obtain⟨u,hu,CQ⟩:=nA (show AV.fL d vs=true from hr);obtain⟨y,hy⟩:=hl.mem_left u hu;cases u with
  | aE i=>exact C1.dS (c:=c) (G:=G) (w:=w) (v := .aE i) hy CQ
  | agg cs =>
   obtain⟨l,_,hl⟩:=hy;obtain⟨u,hu,CQ⟩:=nA (show AV.fL d cs=true from CQ);obtain⟨y,hy⟩:=hl.mem_left u hu;exact hy.dS CQ
  | _=>first|(cases CQ;done)|exact hy.elim
 | cP f vs =>
  obtain⟨l,_,hl⟩:=h;obtain⟨u,hu,CQ⟩:=nA (show AV.fL d vs=true from hr);obtain⟨y,hy⟩:=hl.mem_left u hu;rcases hy.inv with ⟨v,rfl,_⟩|⟨cs,l,rfl,_,hl⟩|h1
  .cases CQ
  .obtain⟨u,hu,CQ⟩:=nA (show AV.fL d cs=true from CQ);obtain⟨y,hy⟩:=hl.mem_left u hu;exact hy.dS CQ
  .exact h1.dS CQ
 | ptr i o=>exact C1.dS (c:=c) (G:=G) (w:=w) (v := .ptr i o) h hr
 | row i=>exact C1.dS (c:=c) (G:=G) (w:=w) (v := .row i) h hr
 | ep i k o=>exact C1.dS (c:=c) (G:=G) (w:=w) (v := .ep i k o) h hr
 | aE i=>exact C1.dS (c:=c) (G:=G) (w:=w) (v := .aE i) h hr
 | sub i k o z=>exact C1.dS (c:=c) (G:=G) (w:=w) (v := .sub i k o z) h hr
 | eB i k o z=>exact C1.dS (c:=c) (G:=G) (w:=w) (v := .eB i k o z) h hr
 | mp i=>exact C1.dS (c:=c) (G:=G) (w:=w) (v := .mp i) h hr
 | _=>cases hr
theorem Inv.PV(h:Inv c G s a w){d:Nat}(hd:s.ai d=none):(∀ i,(s.sl i).refs d=false)/\∀ i o,s.ai i=some o->o.refs d=false:=by
 refine⟨λ i=>?_,λ i o ho=>?_⟩
 .cases hr:(s.sl i).refs d with
  | false=>rfl
  | true=>exact absurd hd ((h.aC i).dS hr)
 .cases o with
  | row e τ xs=>rfl
  | aE τ xs=>rfl
  | map m=>rfl
  | box cs =>
   cases hr:aB.refs d (.box cs) with
   | false=>rfl
   | true =>
    obtain⟨b,l,t,_,_,k3⟩:=h.aJ i _ ho;obtain⟨u,hu,CQ⟩:=nA (show AV.fL d cs=true from hr);obtain⟨y,hy⟩:=k3.mem_left u hu;exact absurd hd (hy.dS CQ)
theorem L5(h0:Inv c G s a w){d:Option Nat}{v:AV}{ob:Option aB}{a':Act}(GW:qL d=true)(rB:∀ i o,d=some i->ob=some o->s.ai i=none)(h:vI c G s.sl s.aC.length s.ai d a w v ob a' w') :
  ∃ G',Inv c G' (s.iH d v ob) a' w':=by
 obtain⟨x,S',rfl,hI,hx⟩:=h;cases ob with
 | none =>
  refine⟨⟨S',G.η,G.φ⟩,?_⟩;have:s.iH d v none=s.put d v:=by cases d<;>rfl
  rw[this];exact Inv.put (s:=s) hI hx
 | some o =>
  obtain⟨hL,hN,hb⟩:=hx;have hd:∃ i,d=some i:=by cases o<;>first|exact⟨_,hL.choose_spec.1⟩|exact hL.elim
  obtain⟨i,rfl⟩:=hd;have hi:=rB i o rfl rfl;have vC:Inv c ⟨S',G.η,G.φ⟩ s a w':=hI;obtain⟨Xg,Z1⟩:=vC.PV hi;have hor:o.refs i=false:=by
   cases o with
   | row e τ xs=>rfl
   | aE τ xs=>rfl
   | map m=>rfl
   | box cs =>
    cases hr:aB.refs i (.box cs) with
    | false=>rfl
    | true =>
     obtain⟨b,l,t,_,_,k3⟩:=hN;obtain⟨u,hu,CQ⟩:=nA (show AV.fL i cs=true from hr);obtain⟨y,hy⟩:=k3.mem_left u hu;exact absurd hi (hy.dS CQ)
  have oQ:OR c ⟨S',λ j=>if j=i then x else G.η j,G.φ⟩ (λ j=>if j=i then some o else s.ai j) w' i o:=by
   cases o with
   | box cs =>
    obtain⟨b,l,t,k1,k2,k3⟩:=hN;refine⟨b,l,t,by simp[k1],k2,k3.imp λ u y hu hy=>hy.mono (λ j hj=>?_) (λ _ h=>h) (λ _ _=>rfl)⟩;have dD:j≠i:=λ e=>by
     subst e;have:=kG hu hj;rw[show AV.fL j cs=aB.refs j (.box cs) from rfl,hor] at this;cases this
    simp only[b0N dD];exact⟨ew.refl _,ag⟩
   | row e τ xs =>
    obtain⟨l,k1,k2,k3⟩:=hN;exact⟨l,by simpa using k1,k2,k3⟩
   | aE τ xs=>exact hN.elim
   | map m =>
    obtain⟨b,es,clock,k1,k2,k3⟩:=hN;exact⟨b,es,clock,by simp[k1],k2,k3⟩
  have Vb:cS (some o)=false:=by
   cases o with
   | aE τ xs=>exact hN.elim
   | _=>rfl
  have h4:=bh.newObj vC i o x hi Xg Z1 hor oQ Vb (.inr (b1N GW)) (λ b xv=>by
   obtain⟨q1,q2,q3⟩:=hb b xv;have hle:=h0.aM.size;refine⟨by omega,q3,q2,λ j p ZY MF=>?_,λ j τ xs hj MF=>?_⟩
   .have:=(h0.place j p b ZY MF).2.2;omega
   .have:=(h0.aR.pl j τ xs b hj MF).2.2.1;omega)
  refine⟨⟨S',λ j=>if j=i then x else G.η j,G.φ⟩,?_⟩;unfold Inv;have bW:(s.iH (some i) v (some o)).ai=λ j=>if j=i then some o else s.ai j:=by
   funext j;rw[Ao];by_cases hj:j=i
   .subst hj;simp
   .have:¬ (some i=some j):=by simp;exact λ e=>hj e.symm
    rw[b0N this,b0N hj]
  rw[Jx,bW,KU];refine bh.put h4 ?_;cases o with
  | box cs =>
   obtain⟨j,hj,rfl⟩:=hL;simp only[b0J] at hj;subst hj;obtain⟨b,l,t,k1,k2,k3⟩:=hN;exact⟨b,by simp[k1],k1,by simp[fI]⟩
  | row e τ xs =>
   obtain⟨j,hj,rfl⟩:=hL;simp only[b0J] at hj;subst hj;obtain⟨l,k1,k2,k3⟩:=hN;refine⟨by simp,by simp[isRow],?_⟩;rcases k1.2 with ⟨rfl,_⟩|⟨g,cap,cur,rfl,_⟩
   .exact⟨_,_,_,rfl⟩
   .exact⟨_,_,_,rfl⟩
  | aE τ xs=>exact hN.elim
  | map m =>
   obtain⟨j,hj,rfl⟩:=hL;simp only[b0J] at hj;subst hj;obtain⟨b,es,clock,k1,k2,k3⟩:=hN;exact⟨by simp,by simp[Ha],b,k1⟩
theorem WW(h:Inv c G s a w)(o:Oper):Inv c G (s.fresh o) a w:=by
 unfold aj.fresh;split
 .rename_i d _ _;obtain⟨h1,_,_⟩:=h.clear d;have bW:aj.ai { s.bU d with aJ:=bF d (s.bU d).aJ }=λ i=>if i=d then none else (s.bU d).ai i:=by
   funext i;exact er d _ i
  unfold Inv;show bh c G (s.bU d).sl (s.bU d).aC.length (aj.ai { s.bU d with aJ:=bF d (s.bU d).aJ }) a w;rw[bW,show (s.bU d).aC.length=s.aC.length from by simp[aj.bU]];exact h1
 .exact h
theorem UT(s:aj)(o:Oper)(j:Nat):(s.ai j=none->(s.fresh o).ai j=none)/\(tN o.op=true->o.dst=some j->(s.fresh o).ai j=none):=by
 unfold aj.fresh;split
 .rename_i d hc hd;have bW:aj.ai { s.bU d with aJ:=bF d (s.bU d).aJ } j=if j=d then none else (s.ai j).map (aB.kill d):=by
   show ai (bF d (s.bU d).aJ) j=_;rw[er];have:=congrFun (dV s d) j;show (if j=d then none else (s.bU d).ai j)=_;rw[this]
  rw[bW];refine⟨λ h=>by rw[h];simp,λ _ hj=>?_⟩;rw[hd] at hj;simp only[b0J] at hj;rw[b0T hj.symm]
 .rename_i iF;exact⟨λ h=>h,λ hc hd=>(iF j hc hd).elim⟩
theorem zS:∀ (l:List Oper) {s:aj},Inv c G s a w->Inv c G (l.foldl aj.fresh s) a w
 | [],_,h=>h
 | o::r,_,h=>zS r (WW h o)
theorem xr:∀ (l:List Oper) (s:aj) (j:Nat),(s.ai j=none->(l.foldl aj.fresh s).ai j=none)/\(∀ o∈l,tN o.op=true->o.dst=some j->(l.foldl aj.fresh s).ai j=none)
 | [],s,j=>⟨λ h=>h,by simp⟩
 | o::r,s,j=>by
  obtain⟨h1,h2⟩:=xr r (s.fresh o) j;obtain⟨h3,h4⟩:=UT s o j;refine⟨λ h=>h1 (h3 h),λ p hp hc hd=>?_⟩;rcases b0X.1 hp with rfl|hp
  .exact h1 (h4 hc hd)
  .exact h2 p hp hc hd
theorem Oj{E:Env}{lk:Nat->Option aB}{f:FuncId}{Ts:List TypeId}{vs:List AV}{vc:Vc}{v:AV}{ob:Option aB}(h:DU E lk f Ts vs=some (vc,v,ob)):ob=none:=by
 unfold DU at h;repeat' split at h
 all_goals first
  | (simp only[b0J,b0M] at h;exact h.2.2.symm)
  | cases h
theorem LL{E:Env}{lk:Nat->Option aB}{g:AV}{Ts:List TypeId}{vs:List AV}{vc:Vc}{v:AV}{ob:Option aB}(h:ye E lk g Ts vs=some (vc,v,ob)):ob=none:=by
 unfold ye at h;split at h
 .rename_i r hr;repeat' split at hr
  all_goals first
   | (simp only[b0J] at hr h;subst hr;simp only[b0M] at h;exact h.2.2.symm)
   | cases hr
 .repeat' split at h
  all_goals first
   | (simp only[b0J,b0M] at h;exact h.2.2.symm)
   | cases h
theorem Jo{E:Env}{lk:Nat->Option aB}{ev:Operand->AV}{o:Oper}{vc:Vc}{v:AV}{ob:aB}(h:Hv E lk ev o=some (vc,v,some ob)):tN o.op=true:=by
 unfold Hv at h;split at h;case h_4 T bl=>rw[bl];rfl
 case h_5 T x bl=>rw[bl];rfl
 case h_7 T n ps bl=>rw[bl];rfl
 case h_21 T bl=>rw[bl];rfl
 case h_19 T x y bl=>rw[bl];rfl
 case h_20 cl bl =>
  split at h
  .repeat' split at h
   all_goals first
    | (simp at h;done)
    | cases h
  .rename_i fN;rw[bl];simp[tN,fN]
  .rename_i fN;repeat' (split at h)
   all_goals first|cases h|skip
  .exact absurd (Oj h) (by simp)
  .split at h
   .exact absurd (Oj h) (by simp)
   .exact absurd (LL h) (by simp)
   .exact absurd (LL h) (by simp)
   .cases h
  .cases h
 all_goals (repeat' split at h)
 all_goals first
  | (simp at h;done)
  | cases h
end
end Go.Proofs.YtofnjfpeimhifaaGreatDoor

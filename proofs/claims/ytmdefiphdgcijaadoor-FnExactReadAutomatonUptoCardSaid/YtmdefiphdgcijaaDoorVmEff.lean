/- The operations that change memory of the call's own; what is laid into a state; what is fixed. -/
import Derived.Test.YtmdefiphdgcijaaDoorVmOps
set_option linter.unusedVariables false
set_option linter.unusedSimpArgs false
namespace Go.Proofs.YtmdefiphdgcijaaDoor
theorem c6q(f:a0d→a0d):∀ (l:List (Nat×a0d)) (j:Nat),a0f (l.map fun p=>(p.1,f p.2)) j=(a0f l j).map f
 | [],_=>rfl
 | (k,o)::r,j=>by
  simp only[List.map_cons,a0f]
  split
  ·rfl
  ·exact c6q f r j
theorem a3f(id:Nat):∀ (l:List (Nat×a0d)) (j:Nat),a0f (a0v id l) j=if j=id then none else a0f l j
 | [],_=>by simp[a0v,a0f]
 | (k,o)::r,j=>by
  simp only[a0v]
  split
  ·rename_i h
   have h:=Nat.eq_of_beq_eq_true h
   subst h
   rw[a3f k r j]
   by_cases hj:j=k
   ·simp[hj]
   ·rw[if_neg hj,if_neg hj]
    simp only[a0f]
    split
    ·rename_i h;exact absurd (Nat.eq_of_beq_eq_true h).symm hj
    ·rfl
  ·rename_i h
   have hk:k≠id:=fun e=>by subst e;simp at h
   simp only[a0f]
   split
   ·rename_i h'
    have h':=Nat.eq_of_beq_eq_true h'
    subst h'
    rw[if_neg hk]
   ·exact a3f id r j
theorem a2j(k:Nat)(o:a0d)(l:List (Nat×a0d))(j:Nat):a0f ((k,o)::l) j=if j=k then some o else a0f l j:=by
 simp only[a0f]
 split
 ·rename_i h;rw[if_pos (Nat.eq_of_beq_eq_true h).symm]
 ·rename_i h
  have:j≠k:=fun e=>by subst e;simp at h
  rw[if_neg this]
theorem b1d(l:List AV)(d:Nat)(v:AV)(o:List (Nat×a0d)):a0c.sl ⟨l.set d v,o⟩=a5y l.length (a0c.sl ⟨l,o⟩) (some d) v:=by
 funext i
 simp only[a0c.sl,a5y,List.getD_eq_getElem?_getD,List.getElem?_set,Option.some.injEq]
 by_cases h:d=i
 ·subst h
  by_cases hl:d<l.length
  ·simp[hl]
  ·simp[hl]
 ·simp[h]
theorem e6s(s:a0c)(d:Option Nat)(v:AV):(s.put d v).sl=a5y s.slots.length s.sl d v:=by
 cases d with
 | none=>funext i;simp[a0c.put,a5y]
 | some d=>exact b1d s.slots d v s.objs
theorem e1n(s:a0c)(d:Option Nat)(v:AV):(s.put d v).look=s.look:=by cases d<;>rfl
theorem d6d(s:a0c)(d:Option Nat)(v:AV):(s.put d v).slots.length=s.slots.length:=by cases d<;>simp[a0c.put]
theorem e1z(s:a0c)(id:Nat):(s.sweep id).sl=fun i=>(s.sl i).kill id:=by
 funext i
 simp only[a0c.sl,a0c.sweep,List.getD_eq_getElem?_getD,List.getElem?_map]
 cases s.slots[i]?<;>simp[AV.kill,AV.refs]
theorem a2z(s:a0c)(id:Nat):(s.sweep id).look=fun i=>(s.look i).map (a0d.kill id):=by
 funext i;exact c6q _ _ _
section
variable {c:Ctx} {G:Gh} {s:a0c} {a:Act} {w w':World}
theorem Inv.put(h:Inv c G s a w){d:Option Nat}{v:AV}{x:Value}(hv:VR c G s.look w v x):Inv c G (s.put d v) (a.put d x) w:=by
 unfold Inv
 rw[e6s,e1n,d6d]
 exact a0l.put h hv
theorem Inv.clear(h:Inv c G s a w)(id:Nat):a0l c G (s.sweep id).sl s.slots.length (fun i=>if i=id then none else (s.sweep id).look i) a w ∧
  (∀ i,((s.sweep id).sl i).refs id=false)∧∀ i o,(s.sweep id).look i=some o→o.refs id=false:=by
 have h1:=a0l.sweep h id
 have hs:∀ i,((s.sweep id).sl i).refs id=false:=fun i=>by rw[e1z];exact c1x id _
 have ho:∀ i o,(s.sweep id).look i=some o→o.refs id=false:=fun i o hio=>by
  rw[a2z] at hio
  simp only[Option.map_eq_some_iff] at hio
  obtain⟨o',_,rfl⟩:=hio
  cases o' with
  | box cs=>exact c7b id cs
  | row e τ xs=>rfl
  | tree τ xs=>rfl
  | map m=>rfl
 refine⟨?_,hs,ho⟩
 rw[e1z,a2z]
 exact a0l.dropId h1 id (fun i=>c1x id _) (fun i o hio _=>by
  have:=ho i o (by rw[a2z];exact hio)
  exact this)
theorem e1l(id:Nat)(o:a0d):(o.kill id).refs id=false:=by
 cases o with
 | box cs=>exact c7b id cs
 | row e τ xs=>rfl
 | tree τ xs=>rfl
 | map m=>rfl
theorem Inv.layObj(h:Inv c G s a w){id:Nat}{v:AV}{o:a0d}{x:Value}(hlt:id<400000)(hN:e3m c G s.look w x o)(hL:LV (some id) v o)
  (hblk:∀ b,blk x=some b→(c.w0.heap.size≤b∨c.X b)∧¬ G.S b∧b<w.heap.size∧(∀ i o',i≠id→s.look i=some o'→blk (G.η i)≠some b)∧∀ j τ xs,s.look j=some (.tree τ xs)→b∉G.φ j) :
  Inv c ⟨G.S,fun i=>if i=id then x else G.η i,G.φ⟩ (s.lay (some id) v (some o)) (a.put (some id) x) w:=by
 obtain⟨h1,h2,h3⟩:=h.clear id
 have hlk:(s.lay (some id) v (some o)).look=fun i=>if i=id then some (o.kill id) else (if i=id then none else (s.sweep id).look i):=by
  funext i
  show a0f ((id,o.kill id)::a0v id (s.sweep id).objs) i=_
  rw[a2j,a3f]
  rfl
 have hsl:(s.lay (some id) v (some o)).sl=a5y s.slots.length (s.sweep id).sl (some id) v:=by
  have:=b1d (s.sweep id).slots id v ((id,o.kill id)::a0v id (s.sweep id).objs)
  rw[show (s.sweep id).slots.length=s.slots.length from by simp[a0c.sweep]] at this
  exact this
 have hlen:(s.lay (some id) v (some o)).slots.length=s.slots.length:=by simp[a0c.lay,a0c.sweep]
 have hnew:OR c ⟨G.S,fun i=>if i=id then x else G.η i,G.φ⟩ (fun i=>if i=id then some (o.kill id) else (if i=id then none else (s.sweep id).look i)) w id (o.kill id):=by
  cases o with
  | box cs =>
   obtain⟨b,l,t,k1,k2,k3⟩:=hN
   refine⟨b,l,t,by simp[k1],k2,a0g.map_left _ (k3.imp fun u y _ hy=>?_)⟩
   refine (hy.kill id).mono (fun j hj=>?_) (fun _ h=>h) (fun _ _=>rfl)
   have hne:j≠id:=fun e=>by subst e;rw[c1x] at hj;cases hj
   simp only[if_neg hne]
   exact⟨by rw[a2z];exact d0s id _,trivial⟩
  | row e τ xs =>
   obtain⟨l,k1,k2,k3⟩:=hN
   exact⟨l,by simpa using k1,k2,k3⟩
  | tree τ xs=>exact hN.elim
  | map m =>
   obtain⟨b,es,clock,k1,k2,k3⟩:=hN
   exact⟨b,es,clock,by simp[k1],k2,k3⟩
 have hot:a1i (some (o.kill id))=false:=by
  cases o with
  | tree τ xs=>exact hN.elim
  | _=>rfl
 have h4:=a0l.newObj h1 id (o.kill id) x (by simp) h2 (fun i p hip=>by
  by_cases hi:i=id
  ·simp[hi] at hip
  ·rw[if_neg hi] at hip
   exact h3 i p hip) (e1l id o) hnew hot (.inr hlt) (fun b hb=>by
  obtain⟨q1,q2,q3,q4,q5⟩:=hblk b hb
  refine⟨q1,q2,q3,fun i p hip=>?_,fun j τ xs hj=>?_⟩
  ·by_cases hi:i=id
   ·simp[hi] at hip
   ·rw[if_neg hi,a2z] at hip
    simp only[Option.map_eq_some_iff] at hip
    obtain⟨p',hp',_⟩:=hip
    exact q4 i p' hi hp'
  ·by_cases hi:j=id
   ·simp[hi] at hj
   ·rw[if_neg hi,a2z] at hj
    exact q5 j τ xs (a7r hj))
 unfold Inv
 rw[hsl,hlk,hlen]
 refine a0l.put h4 ?_
 cases o with
 | box cs =>
  obtain⟨i,hi,rfl⟩:=hL
  simp only[Option.some.injEq] at hi
  subst hi
  obtain⟨b,l,t,k1,k2,k3⟩:=hN
  exact⟨b,by simp[k1],k1,by simp[a0d.kill,a5k]⟩
 | row e τ xs =>
  obtain⟨i,hi,rfl⟩:=hL
  simp only[Option.some.injEq] at hi
  subst hi
  obtain⟨l,k1,k2,k3⟩:=hN
  refine⟨by simp,by simp[a0d.kill,b6z],?_⟩
  rcases k1.2 with ⟨rfl,_⟩|⟨g,cap,cur,rfl,_⟩
  ·exact⟨_,_,_,rfl⟩
  ·exact⟨_,_,_,rfl⟩
 | tree τ xs=>exact hN.elim
 | map m =>
  obtain⟨i,hi,rfl⟩:=hL
  simp only[Option.some.injEq] at hi
  subst hi
  obtain⟨b,es,clock,k1,k2,k3⟩:=hN
  exact⟨by simp,by simp[a0d.kill,c6m],b,k1⟩
theorem d8s(h0:Inv c G s a w){d:Option Nat}(hd4:b3a d=true){v:AV}{ob:Option a0d}{a':Act}(h:b4k c G s.sl s.slots.length s.look d a w v ob a' w'):∃ G',Inv c G' (s.lay d v ob) a' w':=by
 obtain⟨x,S',rfl,hI,hx⟩:=h
 cases ob with
 | none=>exact⟨_,by cases d<;>exact Inv.put (s:=s) hI hx⟩
 | some o =>
  obtain⟨hL,hN,hb⟩:=hx
  have hd:∃ i,d=some i:=by cases o<;>first|exact⟨_,hL.choose_spec.1⟩|exact hL.elim
  obtain⟨i,rfl⟩:=hd
  refine⟨_,Inv.layObj (s:=s) hI (Nat.le_of_ble_eq_true hd4) hN hL fun b hbx=>?_⟩
  obtain⟨h1,h2,h3⟩:=hb b hbx
  have hle:=h0.keep.size
  refine⟨by omega,h3,h2,fun j o' _ hj hjb=>?_,fun j τ xs hj hjb=>?_⟩
  ·have:=(h0.place j o' b hj hjb).2.2
   omega
  ·have:=(h0.trees.pl j τ xs b hj hjb).2.2.1
   omega
theorem e3v{k:IntKind}{n:Int}(h:d7k k n=true):k.min≤n∧n≤k.max:=by
 unfold d7k at h
 split at h
 ·rename_i m
  split at h<;>have h:=Nat.le_of_ble_eq_true h<;>try (simp[IntKind.min,IntKind.max,IntKind.signed,IntKind.bits];omega)
  cases k<;>simp_all [IntKind.min,IntKind.max,IntKind.signed,IntKind.bits]<;>omega
 ·rename_i m
  split at h
  ·have h:=Nat.le_of_ble_eq_true h
   simp[IntKind.min,IntKind.max,IntKind.signed,IntKind.bits]
   omega
  ·cases h
theorem c8w(lk:Nat→Option a0d)(v:Value):C1 c G lk w (c8v v) v:=by
 unfold c8v
 split
 ·split
  ·rename_i h
   exact⟨rfl,rfl,e3v h⟩
  ·trivial
 ·exact⟨rfl,rfl⟩
 ·split
  ·rename_i sv _ h
   have h:=Nat.le_of_ble_eq_true h
   exact⟨rfl,sv,rfl,rfl,by have:sv.size=sv.data.size:=rfl;omega⟩
  ·trivial
 ·rfl
 ·trivial
theorem a0p(h:Inv c G s a w)(x:Operand):VR c G s.look w (s.eval x) (a.eval x):=by
 cases x with
 | tmp t=>exact h.slots t
 | const v =>
  simp only[a0c.eval,Act.eval]
  unfold e2t
  split
  ·rename_i cs
   refine⟨cs.toList,rfl,a0g.map_left _ ?_⟩
   have:∀ l:List Value,a0g (fun u y=>C1 c G s.look w (c8v u) y) l l:=by
    intro l
    induction l with
    | nil=>trivial
    | cons u r ih=>exact⟨c8w _ u,ih⟩
   exact this _
  ·exact (c8w _ v).toVR
 | global g=>trivial
 | func f=>rfl
theorem b0g{g:Nat}{old cs:Array Value}{t:TypeId}{fr:Nat×Nat}(w:World)(hg:w.heap[g]?=some (.cells old t fr))(k:Nat)(hk:k≠g):(w.setRow g cs).heap[k]?=w.heap[k]?:=setRow_other w g k cs hk
theorem c3j(hE:a0r c.P c.E){T:TypeId}{τ:Ty}{b e:Nat}(hT:a0f c.E.ty T=some (τ,b,e)){g o:Nat}{l:List Value}{t:TypeId}{x:Value}(hg:w.heap[g]?=some (.cells l.toArray t (0,0)))
  (hx:x.cells.toList.length=τ.size) (h1:∀ u∈x.cells.toList,u.oneCell'=true) (hfit:o+τ.size≤l.length) :
  (Instr.storeAt T (.pointer (some ⟨g,o,none⟩)) x).run c.P w = .ok () (w.setRow g (l.take o++x.cells.toList++l.drop (o+τ.size)).toArray):=by
 have hn:¬ (x.cells.size≠τ.size):=by simpa using hx
 simp only[Instr.storeAt,Instr.sureAddr,storeVar,Sem.run_bind,Sem.run_pure,Result.andThen_ok,hE.sizeOf hT,if_neg hn]
 have:=run_storeCells_at c.P g o t x.cells.toList 0 l.toArray w hg (by simp at hx ⊢;omega) h1
 simpa [hx] using this
theorem e1u{cs new cs':List AV}{off:Nat}(h:b6t cs off new=some cs'):off+new.length≤cs.length∧cs'=cs.take off++(new++cs.drop (off+new.length)):=by
 unfold b6t at h
 split at h
 ·rename_i hb
  simp only[Option.some.injEq] at h
  exact⟨Nat.le_of_ble_eq_true hb,h.symm⟩
 ·cases h
theorem Inv.store(hE:a0r c.P c.E)(h:Inv c G s a w){T:TypeId}{τ:Ty}{bt e:Nat}(hT:a0f c.E.ty T=some (τ,bt,e)){id off:Nat}{cs new cs':List AV}{x p:Value}(hid:s.look id=some (.box cs))(hp:VR c G s.look w (.ptr id off) p)
  (hnew:∃ v,a7l τ v=some new∧VR c G s.look w v x) (hput:b6t cs off new=some cs') :
  ∃ w',(Instr.storeAt T p x).run c.P w = .ok () w'∧Inv c G { s with objs:=(id, .box cs')::a0v id s.objs } a w':=by
 obtain⟨v,hv,hx⟩:=hnew
 obtain⟨h1,h2,h3⟩:=c0a hv hx
 obtain⟨h4,rfl⟩:=e1u hput
 obtain⟨b,k1,rfl,_⟩:=hp
 obtain⟨b',l,t,k2,k3,k4⟩:=h.objs id _ hid
 rw[k1] at k2
 simp only[Value.pointer.injEq,Option.some.injEq,Addr.mk.injEq,and_true] at k2
 subst k2
 have hlen:=h1.length
 have hll:=k4.length
 have hrun:=c3j (c:=c) hE hT (o:=off) (x:=x) k3 (by omega) h2 (by omega)
 refine⟨_,hrun,?_⟩
 have hsl:a0c.sl { s with objs:=(id, .box (cs.take off++(new++cs.drop (off+new.length))))::a0v id s.objs }=s.sl:=rfl
 have hlk:a0c.look { s with objs:=(id, .box (cs.take off++(new++cs.drop (off+new.length))))::a0v id s.objs }=fun i=>if i=id then some (.box (cs.take off++(new++cs.drop (off+new.length)))) else s.look i:=by
  funext i
  show a0f (_::a0v id s.objs) i=_
  rw[a2j,a3f]
  by_cases hi:i=id
  ·simp[hi]
  ·simp[hi];rfl
 unfold Inv
 rw[hsl,hlk]
 have hst:∀ k,St c G.S k→(w.setRow b (l.take off++x.cells.toList++l.drop (off+τ.size)).toArray).heap[k]?=w.heap[k]?:=fun k hk=>b0g w k3 k fun e=>by
  subst e
  obtain⟨q1,q2,q3⟩:=h.place id _ k hid (by rw[k1];rfl)
  rcases hk with hk|hk
  ·exact q2 hk
  ·exact q1.elim (fun q=>by omega) hk.2.1
 have hsame:∀ j,a2p (s.look j) ((fun i=>if i=id then some (a0d.box (cs.take off++(new++cs.drop (off+new.length)))) else s.look i) j):=fun j=>by
  by_cases hj:j=id
  ·subst hj
   simp only[if_true]
   exact⟨fun _=>rfl,(fun e τ xs hh=>by rw[hid] at hh;cases hh),(fun hh=>by rw[hid] at hh;cases hh),fun hh=>by rw[hid] at hh;cases hh⟩
  ·simp only[if_neg hj];exact a2p.refl _
 refine a0l.modObj h id _ _ b hid (by rw[k1];rfl) ⟨fun _=>rfl,(fun e τ xs hh=>by cases hh),(fun hh=>by cases hh),fun hh=>by cases hh⟩ rfl (fun k hk=>b0g w k3 k hk) rfl rfl rfl (by simp[World.setRow]) ?_
 refine⟨b,_,t,k1,setRow_heap w b _ _ t _ k3,?_⟩
 have key:a0g (C1 c G s.look w) (cs.take off++(new++cs.drop (off+new.length))) (l.take off++x.cells.toList++l.drop (off+τ.size)):=by
  rw[List.append_assoc,←h3]
  exact a0g.append (k4.take off) (a0g.append h1 (k4.drop _))
 exact key.imp fun u y _ hy=>hy.mono (fun j _=>⟨hsame j,rfl⟩) (fun _ h=>h) hst
theorem d9t(cur vals:List Value)(o sz N:Nat)(hv:vals.length=sz)(hN:o+sz≤N)(hc:N≤cur.length) :
  (cur.take o++vals++cur.drop (o+sz)).take N=(cur.take N).take o++vals++(cur.take N).drop (o+sz):=by
 have h1:(cur.take o++vals).length=o+sz:=by simp[hv];omega
 rw[List.take_append,h1,List.take_of_length_le (by omega),List.take_take,Nat.min_eq_left (by omega),List.drop_take]
theorem RdL.set_{S:Nat→Prop}{n:Nat}{d':D}{c':List Value}(hd:Rd w S d' c')(hn':c'.length=n):∀ (ds:List D) {l:List Value} (i:Nat),RdL w S ds l→(∀ d∈ds,d.size=n)→i<ds.length→RdL w S (ds.set i d') (l.take (i * n)++c'++l.drop (i * n+n))
 | [],l,i,_,_,hi=>by simp at hi
 | e::ds,l,0,h,hn,_=>by
  obtain⟨c1,r,rfl,h2,h3⟩:=h
  have hc:c1.length=n:=by rw[Rd.length _ h2];exact hn _ (by simp)
  refine⟨c',r,?_,hd,h3⟩
  simp only[Nat.zero_mul,List.take_zero,List.nil_append,Nat.zero_add]
  rw[←hc,List.drop_left]
 | e::ds,l,i+1,h,hn,hi=>by
  obtain⟨c1,r,rfl,h2,h3⟩:=h
  have hc:c1.length=n:=by rw[Rd.length _ h2];exact hn _ (by simp)
  refine⟨c1,r.take (i * n)++c'++r.drop (i * n+n),?_,h2,RdL.set_ hd hn' ds i h3 (fun d hd=>hn d (by simp[hd])) (by simpa using hi)⟩
  have e1:(i+1) * n=c1.length+i * n:=by rw[Nat.add_mul,hc];omega
  rw[e1,List.take_append,List.take_of_length_le (by omega),show c1.length+i * n - c1.length=i * n by omega,Nat.add_assoc,List.drop_append,List.drop_eq_nil_of_le (by omega),List.nil_append,
   show c1.length+(i * n+n) - c1.length=i * n+n by omega]
  simp
theorem Inv.storeRow(hE:a0r c.P c.E)(h:Inv c G s a w){T:TypeId}{τ:Ty}{bt e:Nat}(hT:a0f c.E.ty T=some (τ,bt,e)){id i:Nat}{e':TypeId}{xs:List τ.den}{v:AV}{y:τ.den}{x p:Value}(hid:s.look id=some (.row e' τ xs))
  (hp:VR c G s.look w (.rptr id i 0) p) (hx:VR c G s.look w v x) (hy:asT (fun _=>none) τ v=some y) :
  ∃ w',(Instr.storeAt T p x).run c.P w = .ok () w'∧Inv c G { s with objs:=(id, .row e' τ (xs.set i y))::a0v id s.objs } a w':=by
 obtain⟨b,n,cap,e1,τ1,xs1,k1,k2,k3,rfl⟩:=hp
 rw[hid] at k2
 simp only[Option.some.injEq,a0d.row.injEq] at k2
 obtain⟨rfl,rfl,k2⟩:=k2
 have k2:=eq_of_heq k2
 subst k2
 have hr:=(d1g hy hx).cells
 have hxl:x.cells.toList.length=τ.size:=by
  have:=Rd.length _ hr
  rwa [show TV.toD ⟨τ,y⟩=τ.toD y from rfl,Ty.size_toD] at this
 have hone:∀ u∈x.cells.toList,u.oneCell'=true:=Rd.oneCells (x:=y) hr
 obtain⟨l,m1,m2,m3⟩:=h.objs id _ hid
 have hsz:∀ d∈xs.map τ.toD,d.size=τ.size:=by
  intro d hd
  obtain⟨z,_,rfl⟩:=List.mem_map.1 hd
  exact Ty.size_toD τ z
 have hll:=RdL.length _ m2 hsz
 simp only[List.length_map] at hll
 have hfit:i * τ.size+τ.size≤xs.length * τ.size:=by
  have:=Nat.mul_le_mul_right τ.size (show i+1≤xs.length by omega)
  rw[Nat.add_mul] at this
  omega
 rcases m1.2 with ⟨hv,_⟩|⟨g,cap',cur,hv,_,hh,hnc,hcm,hcs,htk⟩
 ·rw[k1] at hv;cases hv
 ·rw[k1] at hv
  simp only[Value.slice.injEq,Option.some.injEq,Addr.mk.injEq,and_true] at hv
  obtain⟨rfl,rfl,rfl⟩:=hv
  have hcl:xs.length * τ.size≤cur.toList.length:=by
   rw[Array.length_toList (xs:=cur),hcs];exact Nat.mul_le_mul_right _ hnc
  have hrun:=c3j (c:=c) (l:=cur.toList) hE hT (o:=i * τ.size+0) (x:=x) (by simpa using hh) hxl hone (by omega)
  refine⟨_,hrun,?_⟩
  have hlk:a0c.look { s with objs:=(id, .row e' τ (xs.set i y))::a0v id s.objs }=fun j=>if j=id then some (.row e' τ (xs.set i y)) else s.look j:=by
   funext j
   show a0f (_::a0v id s.objs) j=_
   rw[a2j,a3f]
   by_cases hj:j=id
   ·simp[hj]
   ·simp[hj];rfl
  unfold Inv
  rw[hlk]
  refine a0l.modObj h id _ _ b hid (by rw[k1];rfl) ⟨fun hh=>(by cases hh),fun e2 τ2 xs2 hh=>?_,(fun hh=>by cases hh),fun hh=>by cases hh⟩ rfl (fun k hk=>b0g w hh k hk) rfl rfl rfl (by simp[World.setRow]) ?_
  ·simp only[Option.some.injEq,a0d.row.injEq] at hh
   obtain⟨rfl,rfl,hh⟩:=hh
   have hh:=eq_of_heq hh
   subst hh
   exact⟨_,_,rfl,by simp⟩
  ·refine⟨(l.take (i * τ.size)++x.cells.toList++l.drop (i * τ.size+τ.size)),⟨?_, .inr ⟨b,cap,_,by simpa using k1,Nat.zero_le _,setRow_heap w b cur _ e' _ hh,by simpa using hnc,hcm,?_,?_⟩⟩,?_,by simpa using m3⟩
   ·rw[List.length_set,List.length_append,List.length_append,List.length_take,List.length_drop,hxl,hll];omega
   ·rw[List.size_toArray,List.length_append,List.length_append,List.length_take,List.length_drop,hxl,←hcs,←Array.length_toList (xs:=cur)];omega
   ·simp only[Nat.add_zero,List.length_set]
    rw[d9t _ _ _ _ _ hxl hfit hcl,htk]
   ·rw[List.map_set]
    have:=RdL.set_ hr (by rw[hxl]) _ i m2 hsz (by simpa using k3)
    refine RdL.keep (fun _ h=>h) (fun k hk=>b0g w hh k fun e=>?_) _ this
    subst e
    exact (h.place id _ k hid (by rw[k1];rfl)).2.1 hk
theorem Inv.mapPut(hE:a0r c.P c.E)(h:Inv c G s a w){T:TypeId}{κ ε:Ty}(hT:a0f c.E.mty T=some (κ,ε)){id:Nat}{f:κ.den→Option ε.den}{n:Nat}(hid:s.look id=some (.map ⟨κ,ε,f,n⟩))
  {k:κ.den} {x:ε.den} {p y z:Value} (hp:VR c G s.look w (.mp id) p) (hy:RdV w G.S ⟨κ,k⟩ y) (hz:RdV w G.S ⟨ε,x⟩ z) (hn:n<1000000000) :
  ∃ w',(Instr.mapUpdate T p y z).run c.P w = .ok () w'∧Inv c G { s with objs:=(id, .map ⟨κ,ε,c3e f k x,d0c (f k) n⟩)::a0v id s.objs } a w':=by
 obtain⟨kT,eT,u1,u2,u3,u4,_⟩:=hE.map hT w
 obtain⟨b,es,clock,k1,k2,k3⟩:=h.objs id _ hid
 have sc:∀ {τ:Ty} {q:τ.den} {v:Value},τ.key=true→RdV w G.S ⟨τ,q⟩ v→ScR τ q v:=fun {τ q v} hs hv=>by
  refine ScR.of (w:=w) (S:=G.S) hs ?_
  cases τ with
  | int _=>exact hv
  | bool=>exact hv
  | str=>exact hv
  | _=>cases hs
 obtain⟨es',clock',m1,m2⟩:=k3.store (P:=c.P) u1 u2 k2 (sc u3 hy) (sc u4 hz) hn
 obtain⟨hp1,_⟩:=hp
 refine⟨_,by rw[hp1,k1];exact m1,?_⟩
 have hlk:a0c.look { s with objs:=(id, .map ⟨κ,ε,c3e f k x,d0c (f k) n⟩)::a0v id s.objs }=fun i=>if i=id then some (.map ⟨κ,ε,c3e f k x,d0c (f k) n⟩) else s.look i:=by
  funext i
  show a0f ((id,_)::a0v id s.objs) i=_
  rw[a2j,a3f]
  by_cases hi:i=id
  ·simp[hi]
  ·simp[hi];rfl
 unfold Inv
 rw[hlk]
 obtain⟨q1,q2⟩:=MapKept.heap_set (o' := .map es' clock') k2
 refine a0l.modObj h id _ _ b hid (by rw[k1];rfl) ⟨fun hh=>(by cases hh),(fun e τ xs hh=>by cases hh),(fun hh=>by cases hh),fun _=>rfl⟩ rfl q2 rfl rfl rfl (by simp) ?_
 exact⟨b,es',clock',k1,q1,m2⟩
theorem Inv.append(hE:a0r c.P c.E)(h:Inv c G s a w){T:TypeId}{τ:Ty}{bt e id d:Nat}(hT:a0f c.E.ty T=some (.slice τ,bt,e)){xs ys:List τ.den}{y:AV}{v z:Value}(hid:s.look id=some (.row e τ xs))
  (hv:VR c G s.look w (.row id) v) (hz:VR c G s.look w y z) (hy:a5q (c6v s.look) (.slice τ) y=some ys) (hroom:a2d (xs.length+ys.length) bt) (ty:TypeId) :
  ∃ v' w' G',(Builtin.append_ #[T,T] ty #[v,z]).run c.P w = .ok v' w' ∧
   Inv c G' { slots:=(s.sweep id).slots.set d (.row id),objs:=(id, .row e τ (xs++ys))::a0v id (s.sweep id).objs } (a.put (some d) v') w':=by
 obtain⟨rfl,_,_⟩:=hv
 have hzc:C1 c G s.look w y z:=by
  refine hz.toC1 ?_
  cases y with
  | imm u =>
   have e:=TV.as_some hy
   subst e
   rfl
  | nil=>rfl
  | row i=>rfl
  | tree i=>rfl
  | _=>cases hy
 obtain⟨l,m1,m2,m3⟩:=h.objs id _ hid
 obtain⟨v',w',news,k1,k2,k3,k4,k5,k6⟩:=d4v (w:=w) (base:=0) hE hT m1 (Nat.zero_le _) (e4z h.objs (c4z fun _ _ h=>h) e3c hy hzc) hroom ty
 have hob:=b5j m1
 have hob':=b5j k2
 obtain⟨h1,h2,h3⟩:=h.clear id
 have hrow:∀ b,blk (G.η id)=some b→(c.w0.heap.size≤b∨c.X b)∧¬ G.S b∧b<w.heap.size:=fun b hb=>h.place id _ b hid hb
 have hw:∀ b,b<w.heap.size→blk (G.η id)≠some b→w'.heap[b]?=w.heap[b]?:=fun b hb hne=>k3.block b hb (by rw[hob];exact fun e=>hne e.symm)
 have hst:∀ b,St c G.S b→w'.heap[b]?=w.heap[b]?:=fun b hb=>by
  refine hw b ?_ fun e=>?_
  ·rcases hb with hb|hb
   ·exact h.sLt b hb
   ·exact Nat.lt_of_lt_of_le hb.1 h.keep.size
  ·obtain⟨q1,q2,q3⟩:=hrow b e
   rcases hb with hb|hb
   ·exact q2 hb
   ·exact q1.elim (fun q=>by omega) hb.2.1
 have htre:∀ j τ xs b,s.look j=some (.tree τ xs)→b∈G.φ j→w'.heap[b]?=w.heap[b]?:=fun j τ xs b hj hb =>
  hw b (h.trees.pl j τ xs b hj hb).2.2.1 ((h.trees.pl j τ xs b hj hb).2.2.2 id _ hid)
 have hoth:∀ j o b,j≠id→s.look j=some o→blk (G.η j)=some b→w'.heap[b]?=w.heap[b]?:=fun j o b hj ho hb=>by
  refine hw b (h.place j o b ho hb).2.2 fun e=>?_
  exact hj (h.apart j id o _ b ho hid hb e)
 have h4:a0l c ⟨G.S,G.η,G.φ⟩ (s.sweep id).sl s.slots.length (fun i=>if i=id then none else (s.sweep id).look i) a w':=by
  refine h1.world (S':=G.S) ⟨k3.os,k3.tape,k3.output,k3.size,fun b hb hx=>hw b hb fun e=>hx (hrow b e).1⟩ (fun _ h=>h) (fun _ _=>Iff.rfl) h1.sX (fun b hb=>Nat.lt_of_lt_of_le (h1.sLt b hb) k3.size) hst ?_ (fun j τ xs b hj hb=>by
   by_cases hji:j=id
   ·simp[hji] at hj
   ·rw[if_neg hji,a2z] at hj
    exact htre j τ xs b (a7r hj) hb)
  intro j o b hj hb
  by_cases hji:j=id
  ·simp[hji] at hj
  ·rw[if_neg hji,a2z] at hj
   simp only[Option.map_eq_some_iff] at hj
   obtain⟨o',ho',_⟩:=hj
   exact hoth j o' b hji ho' hb
 have hlen':((xs++ys).length)=xs.length+ys.length:=by simp
 have h5:=a0l.newObj h4 id (.row e τ (xs++ys)) v' (by simp) h2 (fun i p hip=>by
  by_cases hi:i=id
  ·simp[hi] at hip
  ·rw[if_neg hi] at hip
   exact h3 i p hip) rfl ⟨l++news,by simpa using k2,by
    rw[List.map_append]
    exact RdL.append _ _ (RdL.keep (fun _ h=>h) (fun b hb=>hst b (.inl hb)) _ m2) (RdL.keep (fun _ h=>h) (fun b hb=>hst b (.inl hb)) _ k5),by rw[hlen'];exact k6⟩ rfl (.inl rfl) (fun b hb=>by
  have hlt:=(k2.lt b (hob'.trans hb)).2
  have hcase:blk (G.η id)=some b∨b=w.heap.size:=by
   rw[←hob',] at hb
   rcases k4 with q|q
   ·left;rw[←hob,←q];exact hb
   ·right;rw[q] at hb;exact (Option.some.inj hb).symm
  refine⟨?_,?_,hlt,fun j p hjp hjb=>?_,fun j τ2 xs2 hjt hjb=>?_⟩
  ·rcases hcase with q|q
   ·exact (hrow b q).1
   ·have:=h.keep.size;omega
  ·rcases hcase with q|q
   ·exact (hrow b q).2.1
   ·intro hs;have:=h.sLt b hs;omega
  ·by_cases hji:j=id
   ·simp[hji] at hjp
   ·rw[if_neg hji,a2z] at hjp
    simp only[Option.map_eq_some_iff] at hjp
    obtain⟨o',ho',_⟩:=hjp
    rcases hcase with q|q
    ·exact hji (h.apart j id o' _ b ho' hid hjb q)
    ·have:=(h.place j o' b ho' hjb).2.2
     omega
  ·by_cases hji:j=id
   ·simp[hji] at hjt
   ·rw[if_neg hji,a2z] at hjt
    obtain⟨_,_,q3,q4⟩:=h.trees.pl j τ2 xs2 b (a7r hjt) hjb
    rcases hcase with q|q
    ·exact q4 id _ hid q
    ·omega)
 refine⟨v',w',⟨G.S,fun i=>if i=id then v' else G.η i,G.φ⟩,k1,?_⟩
 unfold Inv
 have hlk:a0c.look { slots:=(s.sweep id).slots.set d (.row id),objs:=(id, .row e τ (xs++ys))::a0v id (s.sweep id).objs }=fun i=>if i=id then some (.row e τ (xs++ys)) else (if i=id then none else (s.sweep id).look i):=by
  funext i
  show a0f (_::a0v id (s.sweep id).objs) i=_
  rw[a2j,a3f]
  rfl
 have hsl:a0c.sl { slots:=(s.sweep id).slots.set d (.row id),objs:=(id, .row e τ (xs++ys))::a0v id (s.sweep id).objs }=a5y s.slots.length (s.sweep id).sl (some d) (.row id):=by
  have:=b1d (s.sweep id).slots d (.row id) ((id, .row e τ (xs++ys))::a0v id (s.sweep id).objs)
  rw[show (s.sweep id).slots.length=s.slots.length from by simp[a0c.sweep]] at this
  exact this
 rw[hsl,hlk,show ({ slots:=(s.sweep id).slots.set d (.row id),objs:=(id, .row e τ (xs++ys))::a0v id (s.sweep id).objs }:a0c).slots.length=s.slots.length from by simp[a0c.sweep]]
 refine a0l.put h5 ⟨by simp,by simp[b6z],?_⟩
 rcases k2.2 with ⟨rfl,_⟩|⟨g,cap,cur,rfl,_⟩
 ·exact⟨_,_,_,rfl⟩
 ·exact⟨_,_,_,rfl⟩
end
end Go.Proofs.YtmdefiphdgcijaaDoor

/- One operation, and a row of operations, by the abstract machine. -/
import Derived.Test.YtmdefiphdgcijaaDoorVmSt
set_option linter.unusedVariables false
set_option linter.unusedSimpArgs false
namespace Go.Proofs.YtmdefiphdgcijaaDoor
theorem b9m(id:Nat)(u:AV):∀ l:List AV,AV.frzL id u l=l.map (AV.frz id u)
 | []=>rfl
 | v::r=>congrArg _ (b9m id u r)
section
variable {c:Ctx} {G:Gh} {s:a0c} {a:Act} {w w':World}
theorem f0c{lk:Nat→Option a0d}{id:Nat}{e:TypeId}{τ:Ty}{xs:List τ.den}(ho:OR c G lk w id (.row e τ xs)){S':Nat→Prop}(hS:∀ b,G.S b→S' b)(hb:∀ b,blk (G.η id)=some b→S' b) :
  Rd w S' (Ty.toD (.slice τ) xs) [G.η id]:=by
 obtain⟨l,h1,h2,h3⟩:=ho
 exact e1t h1 h2 h3 hS hb
theorem C1.frz{lk lk':Nat→Option a0d}{id:Nat}{e:TypeId}{τ:Ty}{xs:List τ.den}(hid:lk id=some (.row e τ xs))(ho:OR c G lk w id (.row e τ xs)){S':Nat→Prop}(hS:∀ b,G.S b→S' b)(hb:∀ b,blk (G.η id)=some b→S' b)
  (hlk:∀ j,j≠id→a2p (lk j) (lk' j)) {v:AV} {x:Value} (h:C1 c G lk w v x):C1 c ⟨S',G.η,G.φ⟩ lk' w (AV.frz id (.imm ⟨.slice τ,xs⟩) v) x:=by
 have keep:(∀ j,v.refs j=true→j≠id)→C1 c ⟨S',G.η,G.φ⟩ lk' w v x:=fun hr=>h.mono (fun j hj=>⟨hlk j (hr j hj),rfl⟩) hS (fun _ _=>rfl)
 cases v with
 | row i =>
  simp only[AV.frz]
  split
  ·rename_i hi
   have hi:=Nat.eq_of_beq_eq_true hi
   subst hi
   refine⟨rfl,?_⟩
   rw[h.1]
   exact f0c ho hS hb
  ·rename_i hi
   refine keep fun j hj=>?_
   simp only[AV.refs] at hj
   have:=Nat.eq_of_beq_eq_true hj
   intro e
   subst this e
   simp at hi
 | rptr i k off =>
  simp only[AV.frz]
  split
  ·trivial
  ·rename_i hi
   refine keep fun j hj=>?_
   simp only[AV.refs] at hj
   have:=Nat.eq_of_beq_eq_true hj
   intro e
   subst this e
   simp at hi
 | ptr i off =>
  refine keep fun j hj=>?_
  simp only[AV.refs] at hj
  have:=Nat.eq_of_beq_eq_true hj
  intro e
  subst this e
  obtain⟨b,_,_,h3⟩:=h
  rw[hid] at h3
  cases h3
 | agg cs=>exact h.elim
 | tup cs=>exact h.elim
 | clo f cs=>exact h.elim
 | fun_ v=>exact keep fun j hj=>by cases hj
 | any=>trivial
 | undf=>exact h
 | imm u=>exact keep fun j hj=>by cases hj
 | nil=>exact keep fun j hj=>by cases hj
 | pimm u=>exact keep fun j hj=>by cases hj
 | fn f=>exact keep fun j hj=>by cases hj
 | mp i =>
  refine keep fun j hj=>?_
  simp only[AV.refs] at hj
  have:=Nat.eq_of_beq_eq_true hj
  intro e
  subst this e
  have h3:=h.2.1
  rw[hid] at h3
  cases h3
 | tree i =>
  refine keep fun j hj=>?_
  simp only[AV.refs] at hj
  have:=Nat.eq_of_beq_eq_true hj
  intro e
  subst this e
  have h1:=h.1
  rw[hid] at h1
  cases h1
 | sub i k o z =>
  refine keep fun j hj=>?_
  simp only[AV.refs] at hj
  have:=Nat.eq_of_beq_eq_true hj
  intro e
  subst this e
  have h1:=h.1
  rw[hid] at h1
  cases h1
 | tptr i k o z =>
  refine keep fun j hj=>?_
  simp only[AV.refs] at hj
  have:=Nat.eq_of_beq_eq_true hj
  intro e
  subst this e
  have h1:=h.1
  rw[hid] at h1
  cases h1
theorem b9l(id:Nat)(u:AV):∀ l:List AV,AV.frtL id u l=l.map (AV.frt id u)
 | []=>rfl
 | v::r=>congrArg _ (b9l id u r)
theorem C1.frt{lk lk':Nat→Option a0d}{id:Nat}{τ:Ty}{xs:List τ.den}(hid:lk id=some (.tree τ xs))(hT:a4l w (G.η id) τ xs (G.φ id)){S':Nat→Prop}(hS:∀ b,G.S b→S' b)(hb:∀ b∈G.φ id,S' b)
  (hlk:∀ j,j≠id→a2p (lk j) (lk' j)) {v:AV} {x:Value} (h:C1 c G lk w v x):C1 c ⟨S',G.η,G.φ⟩ lk' w (AV.frt id (.imm ⟨.slice τ,xs⟩) v) x:=by
 have keep:(∀ j,v.refs j=true→j≠id)→C1 c ⟨S',G.η,G.φ⟩ lk' w v x:=fun hr=>h.mono (fun j hj=>⟨hlk j (hr j hj),rfl⟩) hS (fun _ _=>rfl)
 have other:∀ i:Nat,(Nat.beq i id=false∨a1i (lk i)=false)→(∀ j,v.refs j=true→Nat.beq i j=true)→C1 c ⟨S',G.η,G.φ⟩ lk' w v x:=fun i hi hr=>keep fun j hj e=>by
  have q:=Nat.eq_of_beq_eq_true (hr j hj)
  subst q
  subst e
  rcases hi with hi|hi
  ·simp at hi
  ·rw[hid] at hi;cases hi
 cases v with
 | tree i =>
  simp only[AV.frt]
  split
  ·rename_i hi
   have hi:=Nat.eq_of_beq_eq_true hi
   subst hi
   obtain⟨_,l,h2,_⟩:=h
   exact⟨rfl,hT.rd h2 hb⟩
  ·rename_i hi
   exact other i (.inl hi) fun j hj=>hj
 | sub i k o z =>
  simp only[AV.frt]
  split
  ·trivial
  ·rename_i hi
   exact other i (.inl hi) fun j hj=>hj
 | tptr i k o z =>
  simp only[AV.frt]
  split
  ·trivial
  ·rename_i hi
   exact other i (.inl hi) fun j hj=>hj
 | row i=>exact other i (.inr (b5m h.2.1)) fun j hj=>hj
 | rptr i k off =>
  refine other i (.inr ?_) fun j hj=>hj
  obtain⟨b,n,cap,e,τ',xs',_,h3,_⟩:=h
  rw[h3];rfl
 | ptr i off =>
  refine other i (.inr ?_) fun j hj=>hj
  obtain⟨b,_,_,h3⟩:=h
  match hl:lk i,h3 with
  | some (.box _),_=>rfl
 | mp i=>exact other i (.inr (c9z h.2.1)) fun j hj=>hj
 | agg cs=>exact h.elim
 | tup cs=>exact h.elim
 | clo f cs=>exact h.elim
 | fun_ v=>exact keep fun j hj=>by cases hj
 | any=>trivial
 | undf=>exact h
 | imm u=>exact keep fun j hj=>by cases hj
 | nil=>exact keep fun j hj=>by cases hj
 | pimm u=>exact keep fun j hj=>by cases hj
 | fn f=>exact keep fun j hj=>by cases hj
structure Fx(F:AV→AV):Prop where
 imm:∀ v,F (.imm v) = .imm v
 agg:∀ cs,F (.agg cs) = .agg (cs.map F)
 tup:∀ cs,F (.tup cs) = .tup (cs.map F)
 clo:∀ f cs,F (.clo f cs) = .clo f (cs.map F)
 any:F .any = .any
 tree:∀ i,(∃ u,F (.tree i) = .imm u)∨F (.tree i) = .tree i
section
variable {F:AV→AV} {G':Gh} {lk lk':Nat→Option a0d} (hF:Fx F) (hC:∀ v x,C1 c G lk w v x→C1 c G' lk' w (F v) x) (hS:∀ b,G.S b→G'.S b)
include hF hC hS
theorem CR.fx{v:AV}{x:Value}(h:CR c G lk w v x):CR c G' lk' w (F v) x:=by
 rcases h.inv with ⟨u,rfl,h1⟩|⟨cs,l,rfl,rfl,h1⟩|h1
 ·rw[hF.imm];exact RdV.mono h1 hS (fun _ _=>rfl)
 ·rw[hF.agg]
  exact⟨l,rfl,a0g.map_left _ (h1.imp fun u y _ hy=>hC u y hy)⟩
 ·exact (hC _ _ h1).toCR
theorem VR.fx{v:AV}{x:Value}(h:VR c G lk w v x):VR c G' lk' w (F v) x:=by
 have key:C1 c G lk w v x→VR c G' lk' w (F v) x:=fun q=>(hC v x q).toVR
 cases v with
 | imm u=>rw[hF.imm];exact RdV.mono h hS (fun _ _=>rfl)
 | agg cs =>
  obtain⟨l,rfl,h2⟩:=h
  rw[hF.agg]
  exact⟨l,rfl,a0g.map_left _ (h2.imp fun u y _ hy=>hC u y hy)⟩
 | tup vs =>
  obtain⟨l,rfl,h2⟩:=h
  rw[hF.tup]
  refine⟨l,rfl,a0g.map_left _ (h2.imp fun u y _ hy=>?_)⟩
  cases u with
  | any=>rw[hF.any];trivial
  | imm v=>rw[hF.imm];exact RdV.mono hy hS (fun _ _=>rfl)
  | tree i =>
   have q:=hC (.tree i) y hy
   rcases hF.tree i with ⟨u,e⟩|e<;>rw[e] at q ⊢
   ·exact q.toVR
   ·exact q
  | agg cs =>
   obtain⟨l,rfl,h2⟩:=hy
   rw[hF.agg]
   exact⟨l,rfl,a0g.map_left _ (h2.imp fun u y _ hy=>hC u y hy)⟩
  | _=>exact hy.elim
 | clo f cs =>
  obtain⟨l,rfl,h2⟩:=h
  rw[hF.clo]
  exact⟨l,rfl,a0g.map_left _ (h2.imp fun u y _ hy=>CR.fx hF hC hS hy)⟩
 | any=>rw[hF.any];trivial
 | _=>exact key h
end
theorem f0q(id:Nat)(u:TV):Fx (AV.frz id (.imm u)):=⟨fun _=>rfl,fun cs=>by rw[AV.frz,b9m],fun cs=>by rw[AV.frz,b9m],fun f cs=>by rw[AV.frz,b9m],rfl,fun i => .inr rfl⟩
theorem f0p(id:Nat)(u:TV):Fx (AV.frt id (.imm u)):=⟨fun _=>rfl,fun cs=>by rw[AV.frt,b9l],fun cs=>by rw[AV.frt,b9l],fun f cs=>by rw[AV.frt,b9l],rfl,fun i=>by
 simp only[AV.frt]
 split
 ·exact .inl ⟨u,rfl⟩
 ·exact .inr rfl⟩
def a0d.turn(F:AV→AV):a0d→a0d
 | .box cs => .box (cs.map F)
 | o=>o
theorem Inv.fix(h:Inv c G s a w)(id:Nat)(F:AV→AV)(hF:Fx F)(B:Nat→Prop)(hB:∀ b,B b→(c.w0.heap.size≤b∨c.X b)∧b<w.heap.size∧(∀ i o,i≠id→s.look i=some o→blk (G.η i)≠some b)∧∀ i τ xs,i≠id→s.look i=some (.tree τ xs)→b∉G.φ i)
  (hC:∀ lk',(∀ j,j≠id→a2p (s.look j) (lk' j))→∀ v x,C1 c G s.look w v x→C1 c ⟨fun b=>G.S b∨B b,G.η,G.φ⟩ lk' w (F v) x) :
  Inv c ⟨fun b=>G.S b∨B b,G.η,G.φ⟩ { slots:=s.slots.map F,objs:=(a0v id s.objs).map fun p=>(p.1,p.2.turn F) } a w:=by
 have hS:∀ b,G.S b→G.S b∨B b:=fun b hb => .inl hb
 have hlk:∀ i,a0c.look { slots:=s.slots.map F,objs:=(a0v id s.objs).map fun p=>(p.1,p.2.turn F) } i=(if i=id then none else s.look i).map (a0d.turn F):=by
  intro i
  show a0f ((a0v id s.objs).map _) i=_
  rw[c6q,a3f]
  rfl
 have hsame:∀ j,j≠id→a2p (s.look j) (a0c.look { slots:=s.slots.map F,objs:=(a0v id s.objs).map fun p=>(p.1,p.2.turn F) } j):=by
  intro j hj
  rw[hlk,if_neg hj]
  refine⟨fun hh=>?_,fun e τ xs hh=>⟨e,xs,by rw[hh];rfl,Nat.le_refl _⟩,fun hh=>?_,fun hh=>?_⟩
  ·match hq:s.look j,hh with
   | some (.box cs),_=>rfl
  ·match hq:s.look j,hh with
   | some (.tree τ xs),_=>rfl
  ·match hq:s.look j,hh with
   | some (.map m),_=>rfl
 have hC:=hC _ hsame
 have hinv:∀ i o,a0c.look { slots:=s.slots.map F,objs:=(a0v id s.objs).map fun p=>(p.1,p.2.turn F) } i=some o→i≠id∧∃ o',s.look i=some o'∧o=o'.turn F:=fun i o hio=>by
  rw[hlk] at hio
  simp only[Option.map_eq_some_iff] at hio
  obtain⟨o',hio,rfl⟩:=hio
  by_cases hi:i=id
  ·simp[hi] at hio
  ·rw[if_neg hi] at hio
   exact⟨hi,o',hio,rfl⟩
 exact {
  defers:=h.defers
  size:=by rw[h.size];simp
  keep:=h.keep
  xLt:=h.xLt
  sOld:=fun b hbl hx=>⟨fun hh=>by
   rcases hh with hh|hh
   ·exact (h.sOld b hbl hx).1 hh
   ·exact (hB b hh).1.elim (fun q=>by omega) (fun q=>absurd q hx),fun hh => .inl ((h.sOld b hbl hx).2 hh)⟩
  sX:=fun b hh => .inl (h.sX b hh)
  sLt:=fun b hh=>by
   rcases hh with hh|hh
   ·exact h.sLt b hh
   ·exact (hB b hh).2.1
  slots:=fun i=>by
   have he:a0c.sl { slots:=s.slots.map F,objs:=(a0v id s.objs).map fun p=>(p.1,p.2.turn F) } i=F (s.sl i):=by
    simp only[a0c.sl,List.getD_eq_getElem?_getD,List.getElem?_map]
    cases s.slots[i]? with
    | none=>exact hF.any.symm
    | some v=>rfl
   rw[he]
   exact VR.fx hF hC hS (h.slots i)
  objs:=fun i o hio=>by
   obtain⟨hi,o',hio',rfl⟩:=hinv i o hio
   have ho':=h.objs i o' hio'
   cases o' with
   | box cs =>
    obtain⟨b,l,t,k1,k2,k3⟩:=ho'
    exact⟨b,l,t,k1,k2,a0g.map_left _ (k3.imp fun u y _ hy=>hC u y hy)⟩
   | row e2 τ2 xs2 =>
    obtain⟨l,k1,k2,k3⟩:=ho'
    exact⟨l,k1,RdL.keep hS (fun _ _=>rfl) _ k2,k3⟩
   | tree τ2 xs2=>trivial
   | map m=>exact ho'
  place:=fun i o b hio hbb=>by
   obtain⟨hi,o',hio',rfl⟩:=hinv i o hio
   obtain⟨q1,q2,q3⟩:=h.place i o' b hio' hbb
   exact⟨q1,fun hs=>hs.elim q2 fun hs=>(hB b hs).2.2.1 i o' hi hio' hbb,q3⟩
  apart:=fun i j o o2 b hio hjo hbi hbj=>by
   obtain⟨_,o',hio',rfl⟩:=hinv i o hio
   obtain⟨_,o2',hjo',rfl⟩:=hinv j o2 hjo
   exact h.apart i j o' o2' b hio' hjo' hbi hbj
  trees:=by
   have hold:∀ j τ2 xs2,a0c.look { slots:=s.slots.map F,objs:=(a0v id s.objs).map fun p=>(p.1,p.2.turn F) } j=some (.tree τ2 xs2)→j≠id∧s.look j=some (.tree τ2 xs2):=fun j τ2 xs2 k=>by
    obtain⟨hj,o',hjo,e⟩:=hinv j _ k
    refine⟨hj,?_⟩
    match o',e with
    | .tree ..,e=>rw[hjo,e];rfl
    | .box _,e=>cases e
    | .row ..,e=>cases e
    | .map _,e=>cases e
   exact {
    tr:=fun j τ2 xs2 k=>h.trees.tr j τ2 xs2 (hold j τ2 xs2 k).2
    nd:=fun j τ2 xs2 k=>h.trees.nd j τ2 xs2 (hold j τ2 xs2 k).2
    pl:=fun j τ2 xs2 b k hb'=>by
     obtain⟨hj,k⟩:=hold j τ2 xs2 k
     obtain⟨q1,q2,q3,q4⟩:=h.trees.pl j τ2 xs2 b k hb'
     refine⟨q1,fun hs=>hs.elim q2 fun hs=>(hB b hs).2.2.2 j τ2 xs2 hj k hb',q3,fun i o hio=>?_⟩
     obtain⟨_,o',hio',rfl⟩:=hinv i o hio
     exact q4 i o' hio'
    ap:=fun j j' τ2 τ2' xs2 xs2' b k k'=>h.trees.ap j j' τ2 τ2' xs2 xs2' b (hold j τ2 xs2 k).2 (hold j' τ2' xs2' k').2 }
  root:=fun i v hr ht=>h.root i v hr (by
   match hl:a0c.look { slots:=s.slots.map F,objs:=(a0v id s.objs).map fun p=>(p.1,p.2.turn F) } i,ht with
   | some (.tree ..),_ =>
    obtain⟨_,o',hio,e⟩:=hinv i _ hl
    match o',e with
    | .tree ..,e=>rw[hio];rfl
    | .box _,e=>cases e
    | .row ..,e=>cases e
    | .map _,e=>cases e)
  rng:=h.rng
  rootB:=fun i v hr ht=>h.rootB i v hr (by
   match hl:a0c.look { slots:=s.slots.map F,objs:=(a0v id s.objs).map fun p=>(p.1,p.2.turn F) } i,ht with
   | some (.box _),_ =>
    obtain⟨_,o',hio,e⟩:=hinv i _ hl
    match o',e with
    | .box _,e=>rw[hio];rfl
    | .tree ..,e=>cases e
    | .row ..,e=>cases e
    | .map _,e=>cases e)
  rngB:=h.rngB }
theorem e7r(id:Nat)(u:AV)(o:a0d):o.frz id u=o.turn (AV.frz id u):=by
 cases o<;>simp[a0d.frz,a0d.turn,b9m]
theorem e7q(id:Nat)(u:AV)(o:a0d):o.frt id u=o.turn (AV.frt id u):=by
 cases o<;>simp[a0d.frt,a0d.turn,b9l]
theorem Inv.freeze(h:Inv c G s a w)(id:Nat):∃ G',Inv c G' (s.freeze id) a w:=by
 unfold a0c.freeze
 split
 ·rename_i e τ xs hid
  have ho:=h.objs id _ hid
  rw[b9m]
  simp only[e7r]
  exact⟨_,h.fix id _ (f0q id _) (fun b=>blk (G.η id)=some b) (fun b hb=>by
   obtain⟨q1,_,q3⟩:=h.place id _ b hid hb
   exact⟨q1,q3,fun i o hi hio hbi=>hi (h.apart i id o _ b hio hid hbi hb),fun i τ xs _ k q=>(h.trees.pl i τ xs b k q).2.2.2 id _ hid hb⟩)
   fun lk' hs v x hv=>C1.frz hid ho (fun _ hb => .inl hb) (fun _ hb => .inr hb) hs hv⟩
 ·rename_i τ xs hid
  rw[b9l]
  simp only[e7q]
  exact⟨_,h.fix id _ (f0p id _) (fun b=>b∈G.φ id) (fun b hb=>by
   obtain⟨q1,_,q3,q4⟩:=h.trees.pl id _ _ b hid hb
   exact⟨q1,q3,fun i o _ hio=>q4 i o hio,fun i τ xs hi k q=>hi (h.trees.ap i id _ _ _ _ b k hid q hb)⟩)
   fun lk' hs v x hv=>C1.frt hid (h.trees.tr id _ _ hid) (fun _ hb => .inl hb) (fun _ hb => .inr hb) hs hv⟩
 ·exact⟨G,h⟩
theorem Inv.freezes:∀ (l:List Nat) {G:Gh} {s:a0c},Inv c G s a w→∃ G',Inv c G' (l.foldl a0c.freeze s) a w
 | [],G,s,h=>⟨G,h⟩
 | i::r,G,s,h=>by
  obtain⟨G',h'⟩:=h.freeze i
  exact Inv.freezes r h'
theorem c6o{lk:Nat→Option a0d}{v:AV}{x:Value}{K:Prop}(hv:VR c G lk w v x)(h:d1m v K):K:=by
 unfold d1m at h
 split at h
 ·rename_i n
  obtain⟨_,h1,h2⟩:=hv
  refine h ⟨?_,?_⟩
  ·have:=h1;simp only[IntKind.min,IntKind.signed,IntKind.bits,if_true] at this;omega
  ·have:=h2;simp only[IntKind.max,IntKind.signed,IntKind.bits,if_true] at this;omega
 ·rename_i t xs
  obtain⟨_,_,_,_,h1,_⟩:=a9z hv
  exact h h1
 ·rename_i xs
  obtain⟨s,_,h2,h3⟩:=hv
  subst h2
  exact h (by rw[Array.length_toList];exact h3)
 ·exact h
theorem f1n{l:List Operand}{u v:AV}{ev:Operand→AV}(h:l.map ev=[u,v]){lk:Nat→Option a0d}(hev:∀ x,VR c G lk w (ev x) (a.eval x)):∃ x y,l.map a.eval=[x,y]∧VR c G lk w u x∧VR c G lk w v y:=by
 have:=a0g.of_ops hev l
 rw[h] at this
 match hl:l.map a.eval,this with
 | [x,y],hh=>exact⟨x,y,rfl,hh.1,hh.2.1⟩
theorem c9y(hE:a0r c.P c.E)(h:Inv c G s a w){o:Oper}{T:TypeId}{m k x:Operand}(hop:o.op = .mapUpdate T m k x∨o.op = .insert T m k x){vc:Vc}{s':a0c}(he:e1o c.E s o.dst T m k x=some (vc,s'))(hvc:vc.ok){Q:Exit→Act→World→Prop} :
  o.wp c.P a w (fun a' w'=>∃ G',Inv c G' s' a' w') Q:=by
 cases he
theorem e5o(hE:a0r c.P c.E)(h:Inv c G s a w){o:Oper}{vc:Vc}{s':a0c}(he:eop c.E s o=some (vc,s'))(hvc:vc.ok){Q:Exit→Act→World→Prop} :
  o.wp c.P a w (fun a' w'=>∃ G',Inv c G' s' a' w') Q:=by
 unfold eop at he
 split at he
 ·rename_i hop
  exact c9y hE h (.inl hop) he hvc
 ·rename_i hop
  exact c9y hE h (.inr hop) he hvc
 ·rename_i T ad x hop
  split at he
  ·rename_i τ r hT
   have hp:=a0p h ad
   have hx:=a0p h x
   have fin:∀ w' G1 (s1:a0c),(Instr.storeAt T (a.eval ad) (a.eval x)).run c.P w = .ok () w'→Inv c G1 s1 a w'→s'=s1.put o.dst .any→o.wp c.P a w (fun a' w'=>∃ G',Inv c G' s' a' w') Q:=by
    intro w' G1 s1 hr hi hs
    unfold Oper.wp
    have:(execOp a.eval o).run c.P w = .ok .skip w':=by simp only[execOp,hop,Sem.run_bind,hr,Result.andThen_ok,Sem.run_pure]
    rw[this]
    refine⟨G1,?_⟩
    rw[hs]
    exact Inv.put hi trivial
   split at he
   ·rename_i id off hev
    split at he
    ·rename_i cs hid
     split at he
     ·rename_i new hnew
      split at he
      ·rename_i cs' hput
       simp only[Option.some.injEq,Prod.mk.injEq] at he
       obtain⟨rfl,rfl⟩:=he
       rw[hev] at hp
       obtain⟨w',k1,k2⟩:=h.store hE hT hid hp ⟨_,hnew,hx⟩ hput
       exact fin w' _ _ k1 k2 rfl
      ·cases he
     ·cases he
    ·cases he
   ·rename_i id i hev
    split at he
    ·rename_i e' τ' xs hid
     split at he
     ·rename_i y hτ hy
      have hτ:=of_decide_eq_true hτ
      subst hτ
      simp only[Option.some.injEq,Prod.mk.injEq] at he
      obtain⟨rfl,rfl⟩:=he
      rw[hev] at hp
      obtain⟨w',k1,k2⟩:=h.storeRow hE hT hid hp hx hy
      exact fin w' _ _ k1 k2 rfl
     ·cases he
    ·cases he
   ·cases he
  ·cases he
 ·rename_i cl hop
  split at he
  ·rename_i hcal
   split at he
   ·rename_i d T T' hd hTs
    split at he
    ·rename_i τ b e hTT hT
     have hTT:=Nat.eq_of_beq_eq_true hTT
     subst hTT
     split at he
     ·rename_i id y hargs
      split at he
      ·rename_i e' τ' xs ys hid hy
       split at he
       ·rename_i xs' he' hxs
        have he':=Nat.eq_of_beq_eq_true he'
        have e1:=TV.as_some hxs
        cases e1
        subst he'
        simp only[Option.some.injEq,Prod.mk.injEq] at he
        obtain⟨rfl,rfl⟩:=he
        obtain⟨x,z,m1,m2,m3⟩:=f1n (a:=a) (c:=c) (G:=G) (w:=w) hargs (a0p h)
        obtain⟨v',w',G',k1,k2⟩:=h.append hE hT (d:=d) hid m2 m3 hy hvc o.type
        have hTs':cl.argTypes = #[T,T]:=by rw[←Array.toArray_toList (xs:=cl.argTypes),hTs]
        have hxs':cl.args.map a.eval = #[x,z]:=by rw[←Array.toArray_toList (xs:=cl.args.map a.eval),Array.toList_map,m1]
        unfold Oper.wp
        have:(execOp a.eval o).run c.P w = .ok (.value v') w':=by
         simp[execOp,hop,resolve,hcal,invoke,builtin,hTs',hxs',k1]
        rw[this]
        refine⟨G',?_⟩
        rw[hd]
        exact k2
       ·cases he
      ·cases he
     ·cases he
    ·cases he
   ·cases he
  ·cases he
 ·cases he
theorem e6f(hE:a0r c.P c.E)(h:Inv c G s a w){o0:Oper}{vc:Vc}{v:AV}{ob:Option a0d}(he:nop c.E s o0=some (vc,v,ob))(hvc:vc.ok){Q:Exit→Act→World→Prop} :
  o0.wp c.P a w (b4k c G s.sl s.slots.length s.look o0.dst a w v ob) Q:=by
 unfold nop at he
 split at he
 case h_2=>cases he
 case h_1 cl hop =>
 split at he
 case h_2=>cases he
 case h_1 f hcal =>
 split at he
 case h_2=>cases he
 case h_1 d hd =>
 split at he
 case h_2=>cases he
 case h_1 as has =>
 have key:∀ pre o,c.E.nctr f as=some (pre,o)→pre.ok→o0.wp c.P a w (fun a' w'=>∃ x S',a'=a.put o0.dst x∧a0l c ⟨S',G.η,G.φ⟩ s.sl s.slots.length s.look a w' ∧
   (∀ b,blk x=some b→w.heap.size≤b∧b<w'.heap.size∧¬ S' b)∧e8s w' S' x o) Q:=fun pre o hc hvc=>by
  obtain⟨hfn,hcall⟩:=hE.nctr f as pre o hc hvc
  unfold Oper.wp
  rw[a6h hop hcal rfl hfn]
  simp only[Oper.upon]
  refine (hcall w G.S _ h.sOk (a6r hE h (c2g (fun _ _ h=>h)) (fun _ h=>h) (fun τ v x y h1 h2=>b9i c2h b9a h1 h2) has (a0g.of_ops (a0p h) _))).mono ?_
  rintro e w' ⟨x,S',rfl,hk,hS1,hS2,hb,hx⟩
  exact⟨x,S',rfl,a0l.grow h hk hS1 hS2,hb,hx⟩
 split at he
 case h_3=>cases he
 case h_1 pre cells hc =>
  simp only[Option.some.injEq,Prod.mk.injEq] at he
  obtain⟨rfl,rfl,rfl⟩:=he
  refine Oper.wp_mono ?_ (key _ _ hc hvc)
  rintro a' w' ⟨x,S',rfl,hI,hb,b,l,t,rfl,hh,hcs⟩
  exact⟨_,S',rfl,hI,⟨d,hd,rfl⟩,⟨b,l,t,rfl,hh,a0g.map_left _ (hcs.imp fun u y _ hy=>hy)⟩,hb⟩
 case h_2 pre e τ xs hc =>
  simp only[Option.some.injEq,Prod.mk.injEq] at he
  obtain⟨rfl,rfl,rfl⟩:=he
  refine Oper.wp_mono ?_ (key _ _ hc hvc)
  rintro a' w' ⟨x,S',rfl,hI,hb,l,h1,h2,h3⟩
  exact⟨_,S',rfl,hI,⟨d,hd,rfl⟩,⟨l,h1,h2,h3⟩,hb⟩
theorem d3c(hE:a0r c.P c.E)(h:Inv c G s a w){o:Oper}{K:a0c→Prop}(hr:a7g c.E o K s){Q:Exit→Act→World→Prop} :
  o.wp c.P a w (fun a' w'=>∃ G' s',Inv c G' s' a' w'∧K s') Q:=by
 unfold a7g at hr
 split at hr
 ·exact hr.elim
 rename_i hd4
 obtain⟨G1,h1⟩:=h.freezes (a8n c.E s o)
 generalize (a8n c.E s o).foldl a0c.freeze s=s1 at *
 simp only at hr
 split at hr
 ·rename_i vc s' he
  exact Oper.wp_mono (fun a' w' ⟨G',hg⟩=>⟨G',s',hg,(Vc.and_ok hr).2⟩) (e6v hE h1 he (Vc.and_ok hr).1)
 split at hr
 ·rename_i vc s' he
  exact Oper.wp_mono (fun a' w' ⟨G',hg⟩=>⟨G',s',hg,(Vc.and_ok hr).2⟩) (e5e hE h1 he (Vc.and_ok hr).1)
 split at hr
 ·rename_i vc s' he
  exact Oper.wp_mono (fun a' w' ⟨G',hg⟩=>⟨G',s',hg,(Vc.and_ok hr).2⟩) (e5o hE h1 he (Vc.and_ok hr).1)
 ·split at hr
  ·rename_i vc s' he
   exact Oper.wp_mono (fun a' w' ⟨G',hg⟩=>⟨G',s',hg,(Vc.and_ok hr).2⟩) (e6i hE h1 he (Vc.and_ok hr).1)
  split at hr
  ·rename_i vc v ob he
   refine Oper.wp_mono ?_ (e6f hE h1 he (Vc.and_ok hr).1)
   intro a' w' hd
   obtain⟨G',hl⟩:=d8s h1 hd4 hd
   exact⟨G',_,hl,(Vc.and_ok hr).2⟩
  ·split at hr
   ·rename_i vc v ob hq
    obtain⟨hvc,hk⟩:=Vc.and_ok hr
    refine Oper.wp_mono ?_ (d0o hE h1 (fun _ _ h=>h) (a0p h1) hq hvc)
    intro a' w' hd
    obtain⟨G',hl⟩:=d8s h1 hd4 hd
    refine⟨G',_,hl,?_⟩
    split at hk
    ·obtain⟨x,S',_,_,hx⟩:=hd
     cases ob with
     | none=>exact c6o hx hk
     | some ob =>
      obtain⟨hL,_⟩:=hx
      cases ob with
      | box cs=>obtain⟨i,_,rfl⟩:=hL;exact hk
      | row e τ xs=>obtain⟨i,_,rfl⟩:=hL;exact hk
      | tree τ xs=>exact hL.elim
      | map m=>obtain⟨i,_,rfl⟩:=hL;exact hk
    ·exact hk
   ·exact hr.elim
theorem e5r{t:Array Value}{i:Nat}{b:Bool}(h:t.getD i undef = .bool b):t[i]?=some (.bool b):=by
 rw[Array.getD_eq_getD_getElem?] at h
 cases hx:t[i]? with
 | none=>rw[hx] at h;simp[undef] at h
 | some v=>rw[hx] at h;simpa using h
theorem c9n{ops:Array Oper}{g t:Nat}{b:Bool}(ht:b7l ops g=some t)(hx:VR c G s.look w (.imm ⟨.bool,b⟩) (a.eval (.tmp t))):yielded ops a.tmps g=some b:=by
 have hb:[a.eval (.tmp t)]=[.bool b]:=hx
 simp only[List.cons.injEq,and_true] at hb
 have:=e5r hb
 unfold yielded
 rw[show (ops[g]?).bind (·.dst)=some t from ht]
 simp[this]
theorem c6k{ops:Array Oper}{g t:Nat}(ht:b7l ops g=some t)(hx:VR c G s.look w .undf (a.eval (.tmp t))):yielded ops a.tmps g=none:=by
 have hb:a.eval (.tmp t)=undef:=hx
 have hb:a.tmps.getD t undef=undef:=hb
 unfold yielded
 rw[show (ops[g]?).bind (·.dst)=some t from ht]
 rw[Array.getD_eq_getD_getElem?] at hb
 cases hx:a.tmps[t]? with
 | none=>simp[hx]
 | some v =>
  rw[hx] at hb
  have hv:v=undef:=hb
  subst hv
  simp[hx,undef]
theorem Inv.slot(h:Inv c G s a w)(t:Nat){b b':Bool}(he:s.eval (.tmp t) = .imm ⟨.bool,b⟩)(hb:b=b'):Inv c G (s.put (some t) (.imm ⟨.bool,b'⟩)) a w:=by
 have:s.put (some t) (.imm ⟨.bool,b'⟩)=s∨(s.put (some t) (.imm ⟨.bool,b'⟩)).sl=s.sl:=by
  right
  rw[e6s]
  funext i
  unfold a5y
  split
  ·rename_i hi
   obtain⟨h1,h2⟩:=hi
   simp only[Option.some.injEq] at h1
   subst h1
   rw[←hb,←he]
   rfl
  ·rfl
 rcases this with e|e
 ·rw[e];exact h
 ·unfold Inv
  rw[e,e1n,d6d]
  exact h
theorem c2r(hE:a0r c.P c.E){ops:Array Oper}{Q:a0c→Prop}{o:Oper}{r:List Oper}{kn:List (Nat×Bool)}(h:Inv c G s a w)(hr:a3q c.E ops (o::r) kn Q s) :
  if Region.wanted o (yielded ops a.tmps)=true then ∀ Q':Exit→Act→World→Prop,o.wp c.P a w (fun a' w'=>∃ G' s' kn',Inv c G' s' a' w'∧a3q c.E ops r kn' Q s') Q'
  else ∃ G' s' kn',Inv c G' s' (a.put o.dst undef) w∧a3q c.E ops r kn' Q s':=by
 have run:∀ (kn:List (Nat×Bool)) (s:a0c),Inv c G s a w→a7g c.E o (a3q c.E ops r kn Q) s→∀ Q':Exit→Act→World→Prop,o.wp c.P a w (fun a' w'=>∃ G' s' kn',Inv c G' s' a' w'∧a3q c.E ops r kn' Q s') Q':=fun kn s hs hrun Q' =>
  Oper.wp_mono (fun a' w' ⟨G',s',h1,h2⟩=>⟨G',s',kn,h1,h2⟩) (d3c hE hs hrun)
 have skip:∀ (kn:List (Nat×Bool)) (s:a0c),Inv c G s a w→a3q c.E ops r kn Q (s.put o.dst .undf)→∃ G' s' kn',Inv c G' s' (a.put o.dst undef) w∧a3q c.E ops r kn' Q s':=fun kn s hs hk =>
  ⟨G,_,kn,Inv.put (v := .undf) hs rfl,hk⟩
 simp only[a3q] at hr
 split at hr
 ·rename_i hg
  have hw:Region.wanted o (yielded ops a.tmps)=true:=by simp[Region.wanted,hg]
  rw[if_pos hw]
  exact run kn s h hr
 ·rename_i g want hg
  split at hr
  ·exact hr.elim
  ·rename_i t ht
   split at hr
   ·rename_i b hb
    split at hr
    ·rename_i b' hev
     have hx:=a0p h (.tmp t)
     rw[hev] at hx
     have hy:=c9n (s:=s) ht hx
     split at hr
     ·rename_i hbb hbw
      have hbb:=eq_of_beq hbb
      subst hbb
      have hw:Region.wanted o (yielded ops a.tmps)=true:=by simp[Region.wanted,hg,hy];simpa using hbw
      rw[if_pos hw]
      exact run kn s h hr
     ·rename_i hbb hbw
      have hbb:=eq_of_beq hbb
      subst hbb
      have hw:Region.wanted o (yielded ops a.tmps)=false:=by simp[Region.wanted,hg,hy];simpa using hbw
      rw[hw]
      exact skip kn s h hr
     ·exact hr.elim
    ·rename_i hev
     have hx:=a0p h (.tmp t)
     rw[hev] at hx
     have hy:=c6k (s:=s) ht hx
     have hw:Region.wanted o (yielded ops a.tmps)=false:=by simp[Region.wanted,hg,hy]
     rw[hw]
     exact skip kn s h hr
    ·exact hr.elim
   ·split at hr
    ·rename_i b hev
     have hx:=a0p h (.tmp t)
     rw[hev] at hx
     have hy:=c9n (s:=s) ht hx
     by_cases hbw:b=want
     ·have hw:Region.wanted o (yielded ops a.tmps)=true:=by simp[Region.wanted,hg,hy,hbw]
      rw[if_pos hw]
      exact run _ _ (h.slot t hev hbw) (hr.1 hbw)
     ·have hbn:b = !want:=by cases b<;>cases want<;>simp_all
      have hw:Region.wanted o (yielded ops a.tmps)=false:=by simp[Region.wanted,hg,hy,hbn]
      rw[hw]
      exact skip _ _ (h.slot t hev hbn) (hr.2 hbn)
    ·rename_i hev
     have hx:=a0p h (.tmp t)
     rw[hev] at hx
     have hy:=c6k (s:=s) ht hx
     have hw:Region.wanted o (yielded ops a.tmps)=false:=by simp[Region.wanted,hg,hy]
     rw[hw]
     exact skip kn s h hr
    ·exact hr.elim
theorem b9x(hE:a0r c.P c.E){ops:Array Oper}{Q:a0c→Prop}{Q':Exit→Act→World→Prop}(hQ:∀ G s a w,Inv c G s a w→Q s→Q' .normal a w) :
  ∀ (r:List Oper) (i:Nat) (kn:List (Nat×Bool)) (G:Gh) (s:a0c) (a:Act) (w:World),(∀ j o,r[j]?=some o→ops[i+j]?=some o)→Inv c G s a w→a3q c.E ops r kn Q s→wpOps c.P ops Q' (List.range' i r.length) a w
 | [],i,kn,G,s,a,w,_,h,hr=>hQ G s a w h hr
 | o::r,i,kn,G,s,a,w,hops,h,hr=>by
  have ho:ops[i]?=some o:=hops 0 o rfl
  have hnext:∀ j p,r[j]?=some p→ops[i+1+j]?=some p:=fun j p hj=>by
   have:=hops (j+1) p (by simpa using hj)
   rwa [show i+(j+1)=i+1+j by omega] at this
  simp only[List.length_cons,List.range'_succ,wpOps,ho]
  have hstep:=c2r hE h hr
  split at hstep
  ·rename_i hw
   rw[if_pos hw]
   exact .inl (Oper.wp_mono (fun a' w' ⟨G',s',kn',h1,h2⟩=>b9x hE hQ r (i+1) kn' G' s' a' w' hnext h1 h2) (hstep Q'))
  ·rename_i hw
   rw[if_neg hw]
   obtain⟨G',s',kn',h1,h2⟩:=hstep
   exact b9x hE hQ r (i+1) kn' G' s' _ w hnext h1 h2
end
end Go.Proofs.YtmdefiphdgcijaaDoor

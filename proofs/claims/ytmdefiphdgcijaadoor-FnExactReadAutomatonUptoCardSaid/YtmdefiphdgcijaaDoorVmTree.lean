/- Memory that is wholly the call's own: how it comes, how it turns. -/
import Derived.Test.YtmdefiphdgcijaaDoorVmEff
set_option linter.unusedVariables false
set_option linter.unusedSimpArgs false
namespace Go.Proofs.YtmdefiphdgcijaaDoor
section
variable {c:Ctx} {G:Gh} {sl:Nat→AV} {n:Nat} {lk:Nat→Option a0d} {a:Act} {w w':World}
theorem a0l.newTree(h:a0l c G sl n lk a w)(id:Nat)(τ:Ty)(xs:List τ.den)(η0:Value)(fp:List Nat)(hid:lk id=none)(hs:∀ i,(sl i).refs id=false)(ho:∀ i o,lk i=some o→o.refs id=false)
  (hRid:c.R id=none) (hT:a4l w η0 τ xs fp) (hnd:fp.Nodup) (hpl:∀ b∈fp,(c.w0.heap.size≤b∨c.X b)∧¬ G.S b∧b<w.heap.size∧(∀ i o,lk i=some o→blk (G.η i)≠some b)∧∀ j τ xs,lk j=some (.tree τ xs)→b∉G.φ j) :
  a0l c ⟨G.S,fun i=>if i=id then η0 else G.η i,fun i=>if i=id then fp else G.φ i⟩ sl n (fun i=>if i=id then some (.tree τ xs) else lk i) a w:=by
 have hsame:∀ j,j≠id→a2p (lk j) ((fun i=>if i=id then some (a0d.tree τ xs) else lk i) j)∧(if j=id then η0 else G.η j)=G.η j:=fun j hj=>by simp only[if_neg hj];exact⟨a2p.refl _,trivial⟩
 have hb0:blk η0=none:=by
  obtain⟨v,l,_,_,h1,_⟩:=hT
  rw[h1];rfl
 have hblk:∀ i b,blk (if i=id then η0 else G.η i)=some b→i≠id∧blk (G.η i)=some b:=fun i b hb=>by
  by_cases hi:i=id
  ·rw[if_pos hi,hb0] at hb;cases hb
  ·rw[if_neg hi] at hb;exact⟨hi,hb⟩
 have hold:∀ j τ' xs',(if j=id then some (a0d.tree τ xs) else lk j)=some (.tree τ' xs')→j≠id→lk j=some (.tree τ' xs'):=fun j τ' xs' k hj=>by rwa [if_neg hj] at k
 exact {
  defers:=h.defers,size:=h.size,keep:=h.keep,xLt:=h.xLt,sOld:=h.sOld,sX:=h.sX,sLt:=h.sLt
  slots:=fun i=>(h.slots i).mono (fun j hj=>hsame j (fun e=>by subst e;rw[hs i] at hj;cases hj)) (fun _ h=>h) (fun _ _=>rfl)
  objs:=fun i o' hio=>by
   by_cases hi:i=id
   ·subst hi
    simp only[if_true,Option.some.injEq] at hio
    subst hio
    trivial
   ·simp only[if_neg hi] at hio
    exact (h.objs i o' hio).mono (by simp only[if_neg hi]) (fun _ _=>rfl) (fun j hj=>hsame j (fun e=>by subst e;rw[ho i o' hio] at hj;cases hj)) (fun _ h=>h) (fun _ _=>rfl)
  place:=fun i o' b hio hb=>by
   obtain⟨hi,hb⟩:=hblk i b hb
   simp only[if_neg hi] at hio
   exact h.place i o' b hio hb
  apart:=fun i j o1 o2 b hio hjo hb hb'=>by
   obtain⟨hi,hb⟩:=hblk i b hb
   obtain⟨hj,hb'⟩:=hblk j b hb'
   simp only[if_neg hi] at hio
   simp only[if_neg hj] at hjo
   exact h.apart i j o1 o2 b hio hjo hb hb'
  trees:={
   tr:=fun j τ' xs' k=>by
    by_cases hj:j=id
    ·subst hj
     simp only[if_true,Option.some.injEq,a0d.tree.injEq] at k ⊢
     obtain⟨rfl,k⟩:=k
     have k:=eq_of_heq k
     subst k
     exact hT
    ·simp only[if_neg hj]
     exact h.trees.tr j τ' xs' (hold j τ' xs' k hj)
   nd:=fun j τ' xs' k=>by
    by_cases hj:j=id
    ·simp only[if_pos hj];exact hnd
    ·simp only[if_neg hj]
     exact h.trees.nd j τ' xs' (hold j τ' xs' k hj)
   pl:=fun j τ' xs' b k hb=>by
    have fin:(∀ i o,lk i=some o→blk (G.η i)≠some b)→∀ i o,(if i=id then some (a0d.tree τ xs) else lk i)=some o→blk (if i=id then η0 else G.η i)≠some b:=fun hh i o hio e=>by
     obtain⟨hi,e⟩:=hblk i b e
     rw[if_neg hi] at hio
     exact hh i o hio e
    by_cases hj:j=id
    ·simp only[if_pos hj] at hb
     obtain⟨q1,q2,q3,q4,q5⟩:=hpl b hb
     exact⟨q1,q2,q3,fin q4⟩
    ·simp only[if_neg hj] at hb
     obtain⟨q1,q2,q3,q4⟩:=h.trees.pl j τ' xs' b (hold j τ' xs' k hj) hb
     exact⟨q1,q2,q3,fin q4⟩
   ap:=fun j j' τ1 τ2 xs1 xs2 b k k' hb hb'=>by
    by_cases hj:j=id
    ·by_cases hj':j'=id
     ·rw[hj,hj']
     ·simp only[if_pos hj] at hb
      simp only[if_neg hj'] at hb'
      exact absurd hb' ((hpl b hb).2.2.2.2 j' τ2 xs2 (hold j' τ2 xs2 k' hj'))
    ·by_cases hj':j'=id
     ·simp only[if_neg hj] at hb
      simp only[if_pos hj'] at hb'
      exact absurd hb ((hpl b hb').2.2.2.2 j τ1 xs1 (hold j τ1 xs1 k hj))
     ·simp only[if_neg hj] at hb
      simp only[if_neg hj'] at hb'
      exact h.trees.ap j j' τ1 τ2 xs1 xs2 b (hold j τ1 xs1 k hj) (hold j' τ2 xs2 k' hj') hb hb' }
  root:=fun j v hr ht=>by
   have hne:j≠id:=fun e=>by subst e;rw[hRid] at hr;cases hr
   simp only[if_neg hne] at ht ⊢
   exact h.root j v hr ht
  rng:=h.rng
  rootB:=fun j v hr ht=>by
   by_cases hj:j=id
   ·simp only[if_pos hj] at ht;cases ht
   ·simp only[if_neg hj] at ht ⊢
    exact h.rootB j v hr ht
  rngB:=h.rngB }
def FrB(c:Ctx)(G:Gh)(lk:Nat→Option a0d)(w:World)(b:Nat):Prop :=
 (c.w0.heap.size≤b∨c.X b)∧¬ G.S b∧b<w.heap.size∧(∀ i o,lk i=some o→blk (G.η i)≠some b)∧∀ j τ xs,lk j=some (.tree τ xs)→b∉G.φ j
structure c2q(c:Ctx)(G:Gh)(lk lk':Nat→Option a0d)(w w':World)(η':Nat→Value)(φ':Nat→List Nat)(I:Nat→Prop):Prop where
 same:∀ id,¬ I id→lk' id=lk id∧η' id=G.η id∧φ' id=G.φ id
 tree:∀ id,I id→∃ τ xs xs' v l l',lk id=some (.tree τ xs)∧lk' id=some (.tree τ xs')∧G.η id = .tuple (v::l).toArray∧η' id = .tuple (v::l').toArray∧a4l w' (η' id) τ xs' (φ' id)∧(φ' id).Nodup
 foot:∀ id b,I id→b∈φ' id→(∃ id',I id'∧b∈G.φ id')∨FrB c G lk w' b
 apart:∀ id id' b,I id→I id'→b∈φ' id→b∈φ' id'→id=id'
 heap:∀ b,b<w.heap.size→(∀ id,I id→b∉G.φ id)→w'.heap[b]?=w.heap[b]?
 os:w'.os=w.os
 tape:w'.tape=w.tape
 output:w'.output=w.output
 size:w.heap.size≤w'.heap.size
theorem FrB.grow{lk:Nat→Option a0d}{b:Nat}(h:FrB c G lk w b)(hs:w.heap.size≤w'.heap.size):FrB c G lk w' b :=
 ⟨h.1,h.2.1,Nat.lt_of_lt_of_le h.2.2.1 hs,h.2.2.2⟩
theorem c2q.same_{η':Nat→Value}{φ':Nat→List Nat}{I:Nat→Prop}{lk':Nat→Option a0d}(t:c2q c G lk lk' w w' η' φ' I)(id:Nat):a2p (lk id) (lk' id):=by
 by_cases hi:I id
 ·obtain⟨τ,xs,xs',_,_,_,h1,h2,_⟩:=t.tree id hi
  rw[h1,h2]
  exact⟨fun h=>(by cases h),(fun e τ xs h=>by cases h),(fun _=>rfl),fun hh=>by cases hh⟩
 ·rw[(t.same id hi).1];exact a2p.refl _
theorem C1.turn{η':Nat→Value}{φ':Nat→List Nat}{I:Nat→Prop}{lk':Nat→Option a0d}(t:c2q c G lk lk' w w' η' φ' I)(hst:∀ b,St c G.S b→w'.heap[b]?=w.heap[b]?){u:AV}{x:Value}(hu:u.subs=false)(h:C1 c G lk w u x):C1 c ⟨G.S,η',φ'⟩ lk' w' u x:=by
 have key:(∀ id,u.refs id=true→¬ I id)→C1 c ⟨G.S,η',φ'⟩ lk' w' u x:=fun hk=>h.mono (fun id hid=>⟨t.same_ id,(t.same id (hk id hid)).2.1⟩) (fun _ h=>h) hst
 have noT:∀ id,a1i (lk id)=false→¬ I id:=fun id hn hi=>by
  obtain⟨τ,xs,_,_,_,_,h1,_⟩:=t.tree id hi
  rw[h1] at hn;cases hn
 cases u with
 | tree id =>
  obtain⟨h1,l,h2,h3⟩:=h
  by_cases hi:I id
  ·obtain⟨τ,xs,xs',v,l0,l',k1,k2,k3,k4,_⟩:=t.tree id hi
   rw[k3] at h2
   simp only[Value.tuple.injEq,List.toArray_inj,List.cons.injEq] at h2
   obtain⟨rfl,_⟩:=h2
   exact⟨by rw[k2];rfl,l',k4,h3⟩
  ·exact key fun j hj=>by
    have:=Nat.eq_of_beq_eq_true (show Nat.beq id j=true from hj)
    subst this;exact hi
 | tptr id i off sz =>
  obtain⟨h1,b,n,cap,l,h2,h3⟩:=h
  by_cases hi:I id
  ·obtain⟨τ,xs,xs',v,l0,l',k1,k2,k3,k4,_⟩:=t.tree id hi
   rw[k3] at h2
   simp only[Value.tuple.injEq,List.toArray_inj,List.cons.injEq] at h2
   obtain⟨rfl,_⟩:=h2
   exact⟨by rw[k2];rfl,b,n,cap,l',k4,h3⟩
  ·exact key fun j hj=>by
    have:=Nat.eq_of_beq_eq_true (show Nat.beq id j=true from hj)
    subst this;exact hi
 | sub id i off sz=>cases hu
 | ptr id off =>
  refine key fun j hj=>?_
  have:=Nat.eq_of_beq_eq_true (show Nat.beq id j=true from hj)
  subst this
  obtain⟨_,_,_,h3⟩:=h
  exact noT id (by match hl:lk id,h3 with|some (.box _),_=>rfl)
 | row id =>
  refine key fun j hj=>?_
  have:=Nat.eq_of_beq_eq_true (show Nat.beq id j=true from hj)
  subst this
  exact noT id (b5m h.2.1)
 | rptr id i off =>
  refine key fun j hj=>?_
  have:=Nat.eq_of_beq_eq_true (show Nat.beq id j=true from hj)
  subst this
  obtain⟨_,_,_,_,_,_,_,h3,_⟩:=h
  exact noT id (by rw[h3];rfl)
 | mp id =>
  refine key fun j hj=>?_
  have:=Nat.eq_of_beq_eq_true (show Nat.beq id j=true from hj)
  subst this
  exact noT id (c9z h.2.1)
 | agg cs=>exact h.elim
 | tup cs=>exact h.elim
 | clo f cs=>exact h.elim
 | _=>exact key fun j hj=>by cases hj
theorem b1e:∀ {cs:List AV} {v:AV},AV.subsL cs=false→v∈cs→v.subs=false
 | u::r,v,h,hm=>by
  simp only[AV.subsL] at h
  split at h
  ·cases h
  ·rename_i hu
   rcases List.mem_cons.1 hm with rfl|hm
   ·exact hu
   ·exact b1e h hm
theorem CR.turn{η':Nat→Value}{φ':Nat→List Nat}{I:Nat→Prop}{lk':Nat→Option a0d}(t:c2q c G lk lk' w w' η' φ' I)(hst:∀ b,St c G.S b→w'.heap[b]?=w.heap[b]?){u:AV}{x:Value}(hu:u.subs=false)(h:CR c G lk w u x):CR c ⟨G.S,η',φ'⟩ lk' w' u x:=by
 cases u with
 | imm v=>exact RdV.mono (G:=G) (G':=⟨G.S,η',φ'⟩) h (fun _ h=>h) (fun b hb=>hst b (.inl hb))
 | agg cs =>
  obtain⟨l,h1,h2⟩:=h
  exact⟨l,h1,h2.imp fun u y hm hy=>hy.turn t hst (b1e (show AV.subsL cs=false from hu) hm)⟩
 | _=>exact C1.toCR (C1.turn t hst hu h)
theorem VR.turn{η':Nat→Value}{φ':Nat→List Nat}{I:Nat→Prop}{lk':Nat→Option a0d}(t:c2q c G lk lk' w w' η' φ' I)(hst:∀ b,St c G.S b→w'.heap[b]?=w.heap[b]?){u:AV}{x:Value}(hu:u.subs=false)(h:VR c G lk w u x):VR c ⟨G.S,η',φ'⟩ lk' w' u x:=by
 cases u with
 | imm v=>exact RdV.mono (G:=G) (G':=⟨G.S,η',φ'⟩) h (fun _ h=>h) (fun b hb=>hst b (.inl hb))
 | agg cs =>
  obtain⟨l,h1,h2⟩:=h
  exact⟨l,h1,h2.imp fun u y hm hy=>hy.turn t hst (b1e (show AV.subsL cs=false from hu) hm)⟩
 | tup vs =>
  obtain⟨l,h1,h2⟩:=h
  refine⟨l,h1,h2.imp fun u y hm hy=>?_⟩
  have hu':=b1e (show AV.subsL vs=false from hu) hm
  cases u with
  | any=>trivial
  | imm v=>exact RdV.mono (G:=G) (G':=⟨G.S,η',φ'⟩) hy (fun _ h=>h) (fun b hb=>hst b (.inl hb))
  | tree i=>exact C1.turn (u := .tree i) t hst rfl hy
  | agg cs =>
   obtain⟨l,h1,h2⟩:=hy
   exact⟨l,h1,h2.imp fun u y hm hy=>hy.turn t hst (b1e (show AV.subsL cs=false from hu') hm)⟩
  | _=>exact hy.elim
 | any=>trivial
 | undf=>exact h
 | nil=>exact (C1.turn (u := .nil) t hst hu h).toVR
 | pimm u=>exact (C1.turn (u := .pimm u) t hst hu h).toVR
 | ptr i o=>exact (C1.turn (u := .ptr i o) t hst hu h).toVR
 | row i=>exact (C1.turn (u := .row i) t hst hu h).toVR
 | rptr i k o=>exact (C1.turn (u := .rptr i k o) t hst hu h).toVR
 | fn f=>exact (C1.turn (u := .fn f) t hst hu h).toVR
 | tree i=>exact (C1.turn (u := .tree i) t hst hu h).toVR
 | sub i k o z=>cases hu
 | mp i=>exact (C1.turn (u := .mp i) t hst hu h).toVR
 | tptr i k o z=>exact (C1.turn (u := .tptr i k o z) t hst hu h).toVR
 | fun_ v=>exact (C1.turn (u := .fun_ v) t hst hu h).toVR
 | clo f cs =>
  obtain⟨l,h1,h2⟩:=h
  exact⟨l,h1,h2.imp fun u y hm hy=>hy.turn t hst (b1e (show AV.subsL cs=false from hu) hm)⟩
theorem a0l.turn(h:a0l c G sl n lk a w){η':Nat→Value}{φ':Nat→List Nat}{I:Nat→Prop}{lk':Nat→Option a0d}(t:c2q c G lk lk' w w' η' φ' I)(hs:∀ i,(sl i).subs=false)(hbx:∀ id cs,lk id=some (.box cs)→AV.subsL cs=false) :
  a0l c ⟨G.S,η',φ'⟩ sl n lk' a w':=by
 have pl:∀ id b,I id→b∈G.φ id→(c.w0.heap.size≤b∨c.X b)∧¬ G.S b∧b<w.heap.size∧∀ i o,lk i=some o→blk (G.η i)≠some b:=fun id b hi hb=>by
  obtain⟨τ,xs,_,_,_,_,h1,_⟩:=t.tree id hi
  exact h.trees.pl id τ xs b h1 hb
 have hkeepH:∀ b,b<w.heap.size→((c.w0.heap.size≤b∨c.X b)→False)→w'.heap[b]?=w.heap[b]?:=fun b hb hn=>t.heap b hb fun id hi hbb=>hn (pl id b hi hbb).1
 have hst:∀ b,St c G.S b→w'.heap[b]?=w.heap[b]?:=fun b hb=>by
  rcases hb with hb|hb
  ·exact t.heap b (h.sLt b hb) fun id hi hbb=>(pl id b hi hbb).2.1 hb
  ·exact hkeepH b (Nat.lt_of_lt_of_le hb.1 h.keep.size) fun hn=>hn.elim (fun q=>by omega) hb.2.1
 have hblk:∀ id o b,lk id=some o→blk (G.η id)=some b→w'.heap[b]?=w.heap[b]?:=fun id o b ho hb =>
  t.heap b (h.place id o b ho hb).2.2 fun j hj hbb=>(pl j b hj hbb).2.2.2 id o ho hb
 have hη:∀ id b,blk (η' id)=some b→¬ I id∧blk (G.η id)=some b:=fun id b hb=>by
  by_cases hi:I id
  ·obtain⟨_,_,_,_,_,_,_,_,_,h4,_⟩:=t.tree id hi
   rw[h4] at hb;cases hb
  ·rw[(t.same id hi).2.1] at hb;exact⟨hi,hb⟩
 have hfp:∀ id τ xs b,lk' id=some (.tree τ xs)→b∈φ' id→(∃ id' τ' xs',lk id'=some (.tree τ' xs')∧b∈G.φ id'∧(¬ I id→id'=id)∧(I id→I id'))∨(I id∧FrB c G lk w' b):=fun id τ xs b hid hb=>by
  by_cases hi:I id
  ·rcases t.foot id b hi hb with ⟨id',hi',hb'⟩|hfr
   ·obtain⟨τ',xs',_,_,_,_,h1,_⟩:=t.tree id' hi'
    exact .inl ⟨id',τ',xs',h1,hb',fun hn=>absurd hi hn,fun _=>hi'⟩
   ·exact .inr ⟨hi,hfr⟩
  ·obtain⟨h1,h2,h3⟩:=t.same id hi
   rw[h1] at hid
   rw[h3] at hb
   exact .inl ⟨id,τ,xs,hid,hb,fun _=>rfl,fun hi'=>absurd hi' hi⟩
 exact {
  defers:=h.defers,size:=h.size
  keep:=h.keep.trans (Y:=fun b=>c.w0.heap.size≤b∨c.X b) ⟨t.os,t.tape,t.output,t.size,fun b hb hn=>hkeepH b hb hn⟩ fun i hi hy=>hy.elim (fun q=>by omega) id
  xLt:=h.xLt,sOld:=h.sOld,sX:=h.sX
  sLt:=fun b hb=>Nat.lt_of_lt_of_le (h.sLt b hb) t.size
  slots:=fun i=>(h.slots i).turn t hst (hs i)
  objs:=fun id o hid=>by
   by_cases hi:I id
   ·obtain⟨τ,xs,xs',_,_,_,_,h2,_⟩:=t.tree id hi
    rw[h2] at hid
    simp only[Option.some.injEq] at hid
    subst hid
    trivial
   ·obtain⟨h1,h2,h3⟩:=t.same id hi
    rw[h1] at hid
    have ho:=h.objs id o hid
    cases o with
    | box cs =>
     obtain⟨b,l,ty,k1,k2,k3⟩:=ho
     refine⟨b,l,ty,h2.trans k1,?_,k3.imp fun u y hm hy=>hy.turn t hst (b1e (hbx id cs hid) hm)⟩
     rw[hblk id _ b hid (by rw[k1];rfl)];exact k2
    | row e τ xs =>
     obtain⟨l,k1,k2,k3⟩:=ho
     refine⟨l,?_,RdL.keep (fun _ h=>h) (fun b hb=>hst b (.inl hb)) _ k2,k3⟩
     rw[show (⟨G.S,η',φ'⟩:Gh).η id=G.η id from h2]
     exact d0k k1 fun b hb=>hblk id _ b hid hb
    | tree τ xs=>trivial
    | map m =>
     obtain⟨b,es,clock,k1,k2,k3⟩:=ho
     exact⟨b,es,clock,h2.trans k1,(hblk id _ b hid (by rw[k1];rfl)).trans k2,k3⟩
  place:=fun id o b hid hb=>by
   obtain⟨hi,hb⟩:=hη id b hb
   rw[(t.same id hi).1] at hid
   obtain⟨q1,q2,q3⟩:=h.place id o b hid hb
   exact⟨q1,q2,Nat.lt_of_lt_of_le q3 t.size⟩
  apart:=fun id id' o o' b hid hid' hb hb'=>by
   obtain⟨hi,hb⟩:=hη id b hb
   obtain⟨hi',hb'⟩:=hη id' b hb'
   rw[(t.same id hi).1] at hid
   rw[(t.same id' hi').1] at hid'
   exact h.apart id id' o o' b hid hid' hb hb'
  trees:={
   tr:=fun id τ xs hid=>by
    by_cases hi:I id
    ·obtain⟨τ0,xs0,xs',v,l,l',h1,h2,h3,h4,h5,h6⟩:=t.tree id hi
     rw[h2] at hid
     simp only[Option.some.injEq,a0d.tree.injEq] at hid
     obtain⟨rfl,hid⟩:=hid
     have hid:=eq_of_heq hid
     subst hid
     exact h5
    ·obtain⟨h1,h2,h3⟩:=t.same id hi
     rw[h1] at hid
     rw[show (⟨G.S,η',φ'⟩:Gh).η id=G.η id from h2,show (⟨G.S,η',φ'⟩:Gh).φ id=G.φ id from h3]
     exact (h.trees.tr id τ xs hid).keep fun b hb=>t.heap b (h.trees.pl id τ xs b hid hb).2.2.1 fun j hj hbb=>by
      obtain⟨τ',xs',_,_,_,_,k1,_⟩:=t.tree j hj
      have:=h.trees.ap id j τ τ' xs xs' b hid k1 hb hbb
      subst this
      exact hi hj
   nd:=fun id τ xs hid=>by
    by_cases hi:I id
    ·obtain⟨_,_,_,_,_,_,_,_,_,_,_,h6⟩:=t.tree id hi
     exact h6
    ·obtain⟨h1,h2,h3⟩:=t.same id hi
     rw[h1] at hid
     rw[show (⟨G.S,η',φ'⟩:Gh).φ id=G.φ id from h3]
     exact h.trees.nd id τ xs hid
   pl:=fun id τ xs b hid hb=>by
    have hq:(c.w0.heap.size≤b∨c.X b)∧¬ G.S b∧b<w'.heap.size∧∀ i o,lk i=some o→blk (G.η i)≠some b:=by
     rcases hfp id τ xs b hid hb with ⟨id',τ',xs',k1,k2,_⟩|⟨_,f1,f2,f3,f4,_⟩
     ·obtain⟨f1,f2,f3,f4⟩:=h.trees.pl id' τ' xs' b k1 k2
      exact⟨f1,f2,Nat.lt_of_lt_of_le f3 t.size,f4⟩
     ·exact⟨f1,f2,f3,f4⟩
    obtain⟨q1,q2,q3,q4⟩:=hq
    refine⟨q1,q2,q3,fun i o hio hbi=>?_⟩
    obtain⟨hi,hbi⟩:=hη i b hbi
    rw[(t.same i hi).1] at hio
    exact q4 i o hio hbi
   ap:=fun id id' τ τ' xs xs' b hid hid' hb hb'=>by
    by_cases hi:I id
    ·by_cases hi':I id'
     ·exact t.apart id id' b hi hi' hb hb'
     ·rcases hfp id' τ' xs' b hid' hb' with ⟨j',τ2,xs2,m1,m2,m3,_⟩|⟨q,_⟩
      ·rcases hfp id τ xs b hid hb with ⟨j,τ1,xs1,k1,k2,_,k4⟩|⟨_,hfr⟩
       ·have:=h.trees.ap j j' _ _ _ _ b k1 m1 k2 m2
        have e:=m3 hi'
        subst e this
        exact absurd (k4 hi) hi'
       ·exact absurd m2 (hfr.2.2.2.2 j' τ2 xs2 m1)
      ·exact absurd q hi'
    ·by_cases hi':I id'
     ·rcases hfp id τ xs b hid hb with ⟨j,τ1,xs1,k1,k2,k3,_⟩|⟨q,_⟩
      ·rcases hfp id' τ' xs' b hid' hb' with ⟨j',τ2,xs2,m1,m2,_,m4⟩|⟨_,hfr⟩
       ·have:=h.trees.ap j j' _ _ _ _ b k1 m1 k2 m2
        have e:=k3 hi
        subst e this
        exact absurd (m4 hi') hi
       ·exact absurd k2 (hfr.2.2.2.2 j τ1 xs1 k1)
      ·exact absurd q hi
     ·rcases hfp id τ xs b hid hb with ⟨j,τ1,xs1,k1,k2,k3,_⟩|⟨q,_⟩
      ·rcases hfp id' τ' xs' b hid' hb' with ⟨j',τ2,xs2,m1,m2,m3,_⟩|⟨q,_⟩
       ·have:=h.trees.ap j j' _ _ _ _ b k1 m1 k2 m2
        exact (k3 hi).symm.trans (this.trans (m3 hi'))
       ·exact absurd q hi'
      ·exact absurd q hi }
  root:=fun id v hr ht=>by
   by_cases hi:I id
   ·obtain⟨τ,xs,xs',v0,l,l',k1,k2,k3,k4,_⟩:=t.tree id hi
    obtain⟨l2,h2⟩:=h.root id v hr (by rw[k1];rfl)
    rw[k3] at h2
    simp only[Value.tuple.injEq,List.toArray_inj,List.cons.injEq] at h2
    obtain⟨rfl,_⟩:=h2
    exact⟨l',k4⟩
   ·obtain⟨h1,h2,_⟩:=t.same id hi
    rw[h1] at ht
    rw[show (⟨G.S,η',φ'⟩:Gh).η id=G.η id from h2]
    exact h.root id v hr ht
  rng:=h.rng
  rootB:=fun id v hr ht=>by
   by_cases hi:I id
   ·obtain⟨τ,xs,xs',v0,l,l',k1,k2,k3,k4,_⟩:=t.tree id hi
    rw[k2] at ht
    cases ht
   ·obtain⟨h1,h2,_⟩:=t.same id hi
    rw[h1] at ht
    rw[show (⟨G.S,η',φ'⟩:Gh).η id=G.η id from h2]
    exact h.rootB id v hr ht
  rngB:=h.rngB }
theorem a0l.noref(h:a0l c G sl n lk a w){d:Nat}(hd:lk d=none):(∀ i,(sl i).refs d=false)∧∀ i o,lk i=some o→o.refs d=false:=by
 have c1:∀ (v:AV) (x:Value),C1 c G lk w v x→v.refs d=true→False:=fun v x hv hr=>by
  have hno:∀ i,Nat.beq i d=true→a5k (lk i)=false∧b6z (lk i)=false∧a1i (lk i)=false∧∀ e τ xs,lk i≠some (.row e τ xs):=fun i hi=>by
   have:=Nat.eq_of_beq_eq_true hi
   subst this
   rw[hd]
   exact⟨rfl,rfl,rfl,fun _ _ _=>by simp⟩
  cases v with
  | ptr i o=>obtain⟨_,_,_,h3⟩:=hv;rw[(hno i hr).1] at h3;cases h3
  | row i=>obtain⟨_,h3,_⟩:=hv;rw[(hno i hr).2.1] at h3;cases h3
  | rptr i k o=>obtain⟨_,_,_,_,_,_,_,h3,_⟩:=hv;exact (hno i hr).2.2.2 _ _ _ h3
  | tree i=>have h3:=hv.1;rw[(hno i hr).2.2.1] at h3;cases h3
  | sub i k o z=>have h3:=hv.1;rw[(hno i hr).2.2.1] at h3;cases h3
  | tptr i k o z=>have h3:=hv.1;rw[(hno i hr).2.2.1] at h3;cases h3
  | mp i =>
   have h3:=hv.2.1
   have:=Nat.eq_of_beq_eq_true (show Nat.beq i d=true from hr)
   subst this
   rw[hd] at h3;cases h3
  | agg cs=>exact hv
  | tup cs=>exact hv
  | clo f cs=>exact hv
  | _=>cases hr
 have cL:∀ (cs:List AV) (l:List Value),a0g (C1 c G lk w) cs l→AV.refsL d cs=true→False:=by
  intro cs
  induction cs with
  | nil=>intro l _ hr;cases hr
  | cons v r ih =>
   intro l hl hr
   match l,hl with
   | x::l,hl =>
    simp only[AV.refsL] at hr
    split at hr
    ·rename_i hv;exact c1 v x hl.1 hv
    ·exact ih l hl.2 hr
 refine⟨fun i=>?_,fun i o ho=>?_⟩
 ·cases hr:(sl i).refs d with
  | false=>rfl
  | true =>
   have hv:=h.slots i
   revert hv hr
   generalize a.tmps.getD i undef=x
   cases sl i with
   | imm u=>intro hr;cases hr
   | agg cs =>
    intro hr hv
    obtain⟨l,_,hl⟩:=hv
    exact (cL cs l hl hr).elim
   | tup vs =>
    intro hr hv
    obtain⟨l,_,hl⟩:=hv
    have:∀ (vs:List AV) (l:List Value),a0g (TR c G lk w) vs l→AV.refsL d vs=true→False:=by
     intro vs
     induction vs with
     | nil=>intro l _ hr;cases hr
     | cons v r ih =>
      intro l hl hr
      match l,hl with
      | x::l,hl =>
       simp only[AV.refsL] at hr
       split at hr
       ·rename_i hv
        have h1:=hl.1
        cases v with
        | tree i=>exact c1 (.tree i) x h1 hv
        | agg cs =>
         obtain⟨l',_,hl'⟩:=h1
         exact cL cs l' hl' hv
        | imm u=>cases hv
        | any=>cases hv
        | _=>exact h1
       ·exact ih l hl.2 hr
    exact (this vs l hl hr).elim
   | clo f vs =>
    intro hr hv
    obtain⟨l,_,hl⟩:=hv
    have:∀ (vs:List AV) (l:List Value),a0g (CR c G lk w) vs l→AV.refsL d vs=true→False:=by
     intro vs
     induction vs with
     | nil=>intro l _ hr;cases hr
     | cons v r ih =>
      intro l hl hr
      match l,hl with
      | x::l,hl =>
       simp only[AV.refsL] at hr
       split at hr
       ·rename_i hv
        rcases hl.1.inv with ⟨u,rfl,_⟩|⟨cs,l',rfl,_,hl'⟩|h1
        ·cases hv
        ·exact cL cs l' hl' hv
        ·exact c1 _ x h1 hv
       ·exact ih l hl.2 hr
    exact (this vs l hl hr).elim
   | any=>intro hr;cases hr
   | undf=>intro hr;cases hr
   | nil=>intro hr;cases hr
   | pimm u=>intro hr;cases hr
   | fn f=>intro hr;cases hr
   | fun_ v=>intro hr;cases hr
   | ptr i o=>intro hr hv;exact (c1 (.ptr i o) x hv hr).elim
   | row i=>intro hr hv;exact (c1 (.row i) x hv hr).elim
   | rptr i k o=>intro hr hv;exact (c1 (.rptr i k o) x hv hr).elim
   | tree i=>intro hr hv;exact (c1 (.tree i) x hv hr).elim
   | sub i k o z=>intro hr hv;exact (c1 (.sub i k o z) x hv hr).elim
   | tptr i k o z=>intro hr hv;exact (c1 (.tptr i k o z) x hv hr).elim
   | mp i=>intro hr hv;exact (c1 (.mp i) x hv hr).elim
 ·cases hr:o.refs d with
  | false=>rfl
  | true =>
   cases o with
   | row e τ xs=>cases hr
   | tree τ xs=>cases hr
   | map m=>cases hr
   | box cs =>
    obtain⟨b,l,t,_,_,k3⟩:=h.objs i _ ho
    exact (cL cs l k3 hr).elim
structure Ext(G:Gh)(lk:Nat→Option a0d)(G':Gh)(lk':Nat→Option a0d):Prop where
 S:G'.S=G.S
 old:∀ i o,lk i=some o→lk' i=some o∧G'.η i=G.η i∧G'.φ i=G.φ i
theorem Ext.refl(G:Gh)(lk:Nat→Option a0d):Ext G lk G lk:=⟨rfl,fun _ _ h=>⟨h,rfl,rfl⟩⟩
theorem Ext.trans{G1 G2 G3:Gh}{l1 l2 l3:Nat→Option a0d}(h:Ext G1 l1 G2 l2)(k:Ext G2 l2 G3 l3):Ext G1 l1 G3 l3 :=
 ⟨k.S.trans h.S,fun i o ho=>by
  obtain⟨a1,a2,a3⟩:=h.old i o ho
  obtain⟨b1,b2,b3⟩:=k.old i o a1
  exact⟨b1,b2.trans a2,b3.trans a3⟩⟩
theorem C1.ext{G':Gh}{lk':Nat→Option a0d}(e:Ext G lk G' lk'){v:AV}{x:Value}(h:C1 c G lk w v x):C1 c G' lk' w v x:=by
 refine h.mono (fun id hid=>?_) (fun b hb=>by rw[e.S];exact hb) (fun _ _=>rfl)
 have hne:lk id≠none:=fun hn=>by
  cases v with
  | ptr i o=>have:=Nat.eq_of_beq_eq_true (show Nat.beq i id=true from hid);subst this;obtain⟨_,_,_,h3⟩:=h;rw[hn] at h3;cases h3
  | row i=>have:=Nat.eq_of_beq_eq_true (show Nat.beq i id=true from hid);subst this;obtain⟨_,h3,_⟩:=h;rw[hn] at h3;cases h3
  | rptr i k o=>have:=Nat.eq_of_beq_eq_true (show Nat.beq i id=true from hid);subst this;obtain⟨_,_,_,_,_,_,_,h3,_⟩:=h;rw[hn] at h3;cases h3
  | tree i=>have:=Nat.eq_of_beq_eq_true (show Nat.beq i id=true from hid);subst this;have h3:=h.1;rw[hn] at h3;cases h3
  | sub i k o z=>have:=Nat.eq_of_beq_eq_true (show Nat.beq i id=true from hid);subst this;have h3:=h.1;rw[hn] at h3;cases h3
  | tptr i k o z=>have:=Nat.eq_of_beq_eq_true (show Nat.beq i id=true from hid);subst this;have h3:=h.1;rw[hn] at h3;cases h3
  | mp i=>have:=Nat.eq_of_beq_eq_true (show Nat.beq i id=true from hid);subst this;have h3:=h.2.1;rw[hn] at h3;cases h3
  | agg cs=>exact h
  | tup cs=>exact h
  | clo f cs=>exact h
  | _=>cases hid
 match hl:lk id,hne with
 | some o,_ =>
  obtain⟨h1,h2,_⟩:=e.old id o hl
  rw[h1]
  exact⟨a2p.refl _,h2⟩
def Fr(c:Ctx)(G:Gh)(lk:Nat→Option a0d)(w:World)(fp:List Nat):Prop :=
 ∀ b∈fp,(c.w0.heap.size≤b∨c.X b)∧¬ G.S b∧b<w.heap.size∧(∀ i o,lk i=some o→blk (G.η i)≠some b)∧∀ j τ xs,lk j=some (.tree τ xs)→b∉G.φ j
def lkx(news:List (Nat×a0d))(lk:Nat→Option a0d)(i:Nat):Option a0d:=match a0f news i with
 | some o=>some o
 | none=>lk i
theorem e9t(lk:Nat→Option a0d):lkx [] lk=lk:=rfl
theorem e7y(id:Nat)(o:a0d)(r:List (Nat×a0d))(lk:Nat→Option a0d)(hr:a0f r id=none):lkx r (fun i=>if i=id then some o else lk i)=lkx ((id,o)::r) lk:=by
 funext i
 unfold lkx
 rw[a2j]
 by_cases hi:i=id
 ·subst hi;rw[hr];simp
 ·simp[hi]
theorem d6e:∀ (r r':List (Nat×a0d)) (lk:Nat→Option a0d),lkx (r++r') lk=lkx r (lkx r' lk)
 | [],r',lk=>rfl
 | (id,o)::r,r',lk=>by
  funext i
  have:=congrFun (d6e r r' lk) i
  unfold lkx at this ⊢
  rw[List.cons_append,a2j,a2j]
  by_cases hi:i=id
  ·simp[hi]
  ·simpa [hi] using this
theorem a4l.of_ow{τ:Ty}{xs:List τ.den}{x:Value}{fp:List Nat}(h:Ow w (.slice τ.size (xs.map τ.toD)) [x] fp):∃ l,a4l w (.tuple (x::l).toArray) τ xs fp∧∃ a n m,x = .slice a n m:=by
 obtain⟨a',cap,h1,h2,h3,h4,h5⟩:=h
 simp only[List.cons.injEq,and_true,List.length_map] at h1 h2 h4
 subst h1
 rcases h5 with ⟨hx,ha,hf⟩|⟨b,f,l,t,ha,hf,k1,k2⟩
 ·refine⟨[],⟨_,[],a',cap,rfl,rfl,h2,h3,h4, .inl ⟨?_,ha,hf⟩⟩,_,_,_,rfl⟩
  simpa using hx
 ·exact⟨l,⟨_,l,a',cap,rfl,rfl,h2,h3,h4, .inr ⟨b,f,t,ha,hf,k1,k2⟩⟩,_,_,_,rfl⟩
theorem Ow.of_tr{η:Value}{τ:Ty}{xs:List τ.den}{fp:List Nat}(h:a4l w η τ xs fp){x:Value}{l:List Value}(hx:η = .tuple (x::l).toArray):Ow w (.slice τ.size (xs.map τ.toD)) [x] fp:=by
 obtain⟨v,l',a',cap,h1,h2,h3,h4,h5,h6⟩:=h
 rw[hx] at h1
 simp only[Value.tuple.injEq,List.toArray_inj,List.cons.injEq] at h1
 obtain⟨rfl,rfl⟩:=h1
 refine⟨a',cap,by simp[h2],by simpa using h3,h4,by simpa using h5,?_⟩
 rcases h6 with ⟨rfl,q1,q2⟩|⟨b,f,t,q1,q2,q3,q4⟩
 ·exact .inl ⟨rfl,q1,q2⟩
 ·exact .inr ⟨b,f,l,t,q1,q2,q3,q4⟩
theorem a5h:∀ {l:List (Nat×a0d)} {id:Nat} {o:a0d},a0f l id=some o→(id,o)∈l
 | (k,p)::r,id,o,h=>by
  simp only[a0f] at h
  split at h
  ·rename_i hk
   have hk:=Nat.eq_of_beq_eq_true hk
   simp only[Option.some.injEq] at h
   subst hk h
   simp
  ·exact List.mem_cons_of_mem _ (a5h h)
theorem a0l.addCell(h:a0l c G sl n lk a w){u:TV}(hu:u.τ.agg=false){x:Value}{fp:List Nat}{id:Nat}(hO:Ow w u.toD [x] fp)(hnd:fp.Nodup)(hF:Fr c G lk w fp)(hid:∀ p∈a4j id u,lk p.1=none)(hR:c.R id=none) :
  ∃ G',a0l c G' sl n (lkx (a4j id u) lk) a w∧Ext G lk G' (lkx (a4j id u) lk)∧C1 c G' (lkx (a4j id u) lk) w (a7s id u) x ∧
   ∀ fq,Fr c G lk w fq→(∀ b∈fq,b∉fp)→Fr c G' (lkx (a4j id u) lk) w fq:=by
 have scal:(a4j id u=[]∧a7s id u = .imm u)→∃ G',a0l c G' sl n (lkx (a4j id u) lk) a w∧Ext G lk G' (lkx (a4j id u) lk)∧C1 c G' (lkx (a4j id u) lk) w (a7s id u) x ∧
   ∀ fq,Fr c G lk w fq→(∀ b∈fq,b∉fp)→Fr c G' (lkx (a4j id u) lk) w fq:=by
  rintro⟨e1,e2⟩
  rw[e1,e2]
  exact⟨G,h,Ext.refl _ _,⟨hu,hO.rd (S:=fun b=>b∈fp) _ (fun _ h=>h) |> fun hr=>by
   obtain⟨τ,y⟩:=u
   cases τ with
   | slice t=>simp[a4j] at e1
   | mv t=>simp[a7s] at e2
   | ptr=>exact hr
   | st s=>cases hu
   | int k=>exact hr
   | bool=>exact hr
   | str=>exact hr⟩,fun fq hq _=>hq⟩
 obtain⟨τ,y⟩:=u
 cases τ with
 | mv t=>exact⟨G,h,Ext.refl _ _,trivial,fun fq hq _=>hq⟩
 | slice t =>
  obtain⟨l,hT,hsl⟩:=a4l.of_ow (τ:=t) (xs:=y) hO
  have hn:lk id=none:=hid (id, .tree t y) (by simp[a4j])
  obtain⟨hr1,hr2⟩:=h.noref hn
  have hI:=h.newTree id t y _ fp hn hr1 hr2 hR hT hnd hF
  have hlk:lkx (a4j id ⟨.slice t,y⟩) lk=fun i=>if i=id then some (.tree t y) else lk i:=by
   rw[←e9t (fun i=>if i=id then some (a0d.tree t y) else lk i),e7y id _ [] lk rfl];rfl
  rw[hlk]
  refine⟨_,hI,⟨rfl,fun i o ho=>?_⟩,⟨by simp[a1i],l,by simp,hsl⟩,fun fq hq hdis b hb=>?_⟩
  ·have hi:i≠id:=fun e=>by subst e;rw[hn] at ho;cases ho
   simp[hi,ho]
  ·obtain⟨q1,q2,q3,q4,q5⟩:=hq b hb
   refine⟨q1,q2,q3,fun i o hio e=>?_,fun j τ xs hj=>?_⟩
   ·by_cases hi:i=id
    ·simp only[if_pos hi] at e
     cases e
    ·simp only[if_neg hi] at hio e
     exact q4 i o hio e
   ·by_cases hi:j=id
    ·simp only[if_pos hi];exact hdis b hb
    ·simp only[if_neg hi] at hj ⊢
     exact q5 j τ xs hj
 | st s=>cases hu
 | ptr=>exact scal ⟨rfl,rfl⟩
 | int k=>exact scal ⟨rfl,rfl⟩
 | bool=>exact scal ⟨rfl,rfl⟩
 | str=>exact scal ⟨rfl,rfl⟩
theorem d6i{id:Nat}{u:TV}{p:Nat×a0d}(h:p∈a4j id u):p.1=id:=by
 obtain⟨τ,y⟩:=u
 cases τ<;>simp[a4j] at h
 rw[h]
theorem d8u{r:List (Nat×a0d)}{i:Nat}(h:∀ p∈r,p.1≠i):a0f r i=none:=by
 induction r with
 | nil=>rfl
 | cons p r ih =>
  obtain⟨k,o⟩:=p
  rw[a2j,if_neg (fun e=>h (k,o) (by simp) e.symm)]
  exact ih fun q hq=>h q (by simp[hq])
theorem a0l.addCells:∀ {us:List TV} {cs:List Value} {fp:List Nat} {id:Nat} {G:Gh} {lk:Nat→Option a0d},a0l c G sl n lk a w→(∀ u∈us,u.τ.agg=false)→a1t w (us.map TV.toD) cs fp→fp.Nodup→Fr c G lk w fp →
  (∀ p∈a1d id us,lk p.1=none)→((a1d id us).map (·.1)).Nodup→(∀ j,id≤j→c.R j=none) →
  ∃ G' lk',(∀ i,lk' i=lkx (a1d id us) lk i)∧a0l c G' sl n lk' a w∧Ext G lk G' lk'∧a0g (C1 c G' lk' w) (a1z id us) cs∧∀ fq,Fr c G lk w fq→(∀ b∈fq,b∉fp)→Fr c G' lk' w fq
 | [],cs,fp,id,G,lk,h,_,hO,_,_,_,_,_=>by
  obtain⟨rfl,rfl⟩:=hO
  exact⟨G,lk,fun _=>rfl,h,Ext.refl _ _,trivial,fun fq hq _=>hq⟩
 | u::us,cs,fp,id,G,lk,h,hu,hO,hnd,hF,hid,hdup,hR=>by
  obtain⟨v,r,f1,f2,rfl,rfl,h1,h2⟩:=hO
  rw[List.nodup_append] at hnd
  obtain⟨nd1,nd2,nd3⟩:=hnd
  simp only[a1d,List.map_append] at hdup
  rw[List.nodup_append] at hdup
  obtain⟨d1,d2,d3⟩:=hdup
  obtain⟨G1,i1,e1,c1,fr1⟩:=h.addCell (id:=id) (hu u (by simp)) h1 nd1 (fun b hb=>hF b (by simp[hb])) (fun p hp=>hid p (by simp[a1d,hp])) (hR id (Nat.le_refl _))
  have hne:∀ p∈a1d (id+1) us,a0f (a4j id u) p.1=none:=fun p hp=>d8u fun q hq e=>d3 q.1 (List.mem_map.2 ⟨q,hq,rfl⟩) p.1 (List.mem_map.2 ⟨p,hp,rfl⟩) e
  obtain⟨G2,lk2,k1,k2,k3,k4,k5⟩:=a0l.addCells (us:=us) (cs:=r) (fp:=f2) (id:=id+1) i1 (fun u hu'=>hu u (by simp[hu'])) h2 nd2
   (fr1 f2 (fun b hb=>hF b (by simp[hb])) (fun b hb hb'=>nd3 b hb' b hb rfl)) (fun p hp=>by unfold lkx;rw[hne p hp];exact hid p (by simp[a1d,hp])) d2 (fun j hj=>hR j (by omega))
  refine⟨G2,lk2,fun i=>?_,k2,e1.trans k3,⟨c1.ext k3,k4⟩,fun fq hq hdis=>k5 fq (fr1 fq hq fun b hb hb'=>hdis b hb (by simp[hb'])) fun b hb hb'=>hdis b hb (by simp[hb'])⟩
  rw[k1 i]
  simp only[a1d]
  unfold lkx
  have happ:∀ (r r':List (Nat×a0d)) (j:Nat),a0f (r++r') j=match a0f r j with|some o=>some o|none=>a0f r' j:=by
   intro r r' j
   induction r with
   | nil=>rfl
   | cons p r ih =>
    obtain⟨k,o⟩:=p
    rw[List.cons_append,a2j,a2j]
    by_cases hj:j=k
    ·simp[hj]
    ·simpa [hj] using ih
  rw[happ]
  cases hx:a0f (a1d (id+1) us) i with
  | none=>simp only[];cases a0f (a4j id u) i<;>rfl
  | some o =>
   simp only[]
   have hm:=a5h hx
   rw[hne _ hm]
theorem c8m(s:a0h)(y:s.den):∀ u∈s.cells y,u.τ.agg=false:=fun u hu=>by
 have:=a0h.leaf_cells s y u hu
 obtain⟨τ',z'⟩:=u
 cases τ' with
 | st s'=>simp[TV.toD,Ty.toD,a0h.toD_cells,D.leaf] at this
 | _=>rfl
theorem TR.ext{G':Gh}{lk':Nat→Option a0d}(e:Ext G lk G' lk'){v:AV}{x:Value}(h:TR c G lk w v x):TR c G' lk' w v x:=by
 cases v with
 | any=>trivial
 | imm v=>exact RdV.mono (G:=G) (G':=G') h (fun b hb=>by rw[e.S];exact hb) (fun _ _=>rfl)
 | tree i=>exact C1.ext (c:=c) (w:=w) (v := .tree i) e h
 | agg cs =>
  obtain⟨l,h1,h2⟩:=h
  exact⟨l,h1,h2.imp fun u y _ hy=>hy.ext e⟩
 | _=>exact h.elim
theorem TR.toVR{v:AV}{x:Value}(h:TR c G lk w v x):VR c G lk w v x:=by
 cases v with
 | any=>trivial
 | imm v=>exact h
 | tree i=>exact h
 | agg cs=>exact h
 | _=>exact h.elim
theorem C1.toTR{id:Nat}{u:TV}{x:Value}(h:C1 c G lk w (a7s id u) x)(hu:u.τ.agg=false):TR c G lk w (a7s id u) x:=by
 obtain⟨τ,y⟩:=u
 cases τ with
 | slice t=>exact h
 | mv t=>exact h
 | ptr=>exact h.2
 | st s=>cases hu
 | int k=>exact h.2
 | bool=>exact h.2
 | str=>exact h.2
theorem a0l.addVal{v:TV}{x:Value}{fp:List Nat}{id:Nat}{G:Gh}{lk:Nat→Option a0d}(h:a0l c G sl n lk a w)(hO:OwV w v x fp)(hnd:fp.Nodup)(hF:Fr c G lk w fp)
  (hid:∀ p∈a1d id v.cells,lk p.1=none) (hdup:((a1d id v.cells).map (·.1)).Nodup) (hR:∀ j,id≤j→c.R j=none) :
  ∃ G' lk',(∀ i,lk' i=lkx (a1d id v.cells) lk i)∧a0l c G' sl n lk' a w∧Ext G lk G' lk'∧TR c G' lk' w (a3j id v) x∧∀ fq,Fr c G lk w fq→(∀ b∈fq,b∉fp)→Fr c G' lk' w fq:=by
 have one:v.τ.agg=false→v.cells=[v]→a3j id v=a7s id v→Ow w v.toD [x] fp→∃ G' lk',(∀ i,lk' i=lkx (a1d id v.cells) lk i)∧a0l c G' sl n lk' a w∧Ext G lk G' lk'∧TR c G' lk' w (a3j id v) x∧∀ fq,Fr c G lk w fq→(∀ b∈fq,b∉fp)→Fr c G' lk' w fq:=by
  intro hv hc hov hO
  rw[hc] at hid hdup
  obtain⟨G',lk',k1,k2,k3,k4,k5⟩:=h.addCells (us:=[v]) (cs:=[x]) (fp:=fp) (by simpa using hv) ⟨x,[],fp,[],rfl,by simp,hO,rfl,rfl⟩ hnd hF hid hdup hR
  rw[hc,hov]
  exact⟨G',lk',k1,k2,k3,C1.toTR k4.1 hv,k5⟩
 obtain⟨τ,y⟩:=v
 cases τ with
 | st s =>
  obtain⟨cs,rfl,hO⟩:=hO
  rw[a0h.toD_cells] at hO
  obtain⟨G',lk',k1,k2,k3,k4,k5⟩:=h.addCells (us:=s.cells y) (cs:=cs) (fp:=fp) (c8m s y) hO hnd hF hid hdup hR
  exact⟨G',lk',k1,k2,k3,⟨cs,rfl,k4⟩,k5⟩
 | slice t=>exact one rfl rfl rfl hO
 | mv t=>exact one rfl rfl rfl hO
 | ptr=>exact one rfl rfl rfl hO
 | int k=>exact one rfl rfl rfl hO
 | bool=>exact one rfl rfl rfl hO
 | str=>exact one rfl rfl rfl hO
theorem e7x{r r':List (Nat×a0d)}(hd:∀ p∈r',a0f r p.1=none)(lk:Nat→Option a0d)(i:Nat):lkx r' (lkx r lk) i=lkx (r++r') lk i:=by
 rw[d6e]
 unfold lkx
 cases hx:a0f r' i with
 | none=>rfl
 | some o =>
  have:=hd _ (a5h hx)
  simp only[] at this ⊢
  rw[this]
theorem a0l.addVals:∀ {vs:List TV} {xs:List Value} {fp:List Nat} {id:Nat} {G:Gh} {lk:Nat→Option a0d},a0l c G sl n lk a w→c5r w vs xs fp→fp.Nodup→Fr c G lk w fp →
  (∀ p∈a0o id vs,lk p.1=none)→((a0o id vs).map (·.1)).Nodup→(∀ j,id≤j→c.R j=none) →
  ∃ G' lk',(∀ i,lk' i=lkx (a0o id vs) lk i)∧a0l c G' sl n lk' a w∧Ext G lk G' lk'∧a0g (TR c G' lk' w) (d1t id vs) xs∧∀ fq,Fr c G lk w fq→(∀ b∈fq,b∉fp)→Fr c G' lk' w fq
 | [],[],fp,id,G,lk,h,_,_,_,_,_,_=>⟨G,lk,fun _=>rfl,h,Ext.refl _ _,trivial,fun fq hq _=>hq⟩
 | v::vs,x::xs,fp,id,G,lk,h,hO,hnd,hF,hid,hdup,hR=>by
  obtain⟨f1,f2,rfl,h1,h2⟩:=hO
  rw[List.nodup_append] at hnd
  obtain⟨nd1,nd2,nd3⟩:=hnd
  simp only[a0o,List.map_append] at hdup
  rw[List.nodup_append] at hdup
  obtain⟨d1,d2,d3⟩:=hdup
  obtain⟨G1,lk1,l1,i1,e1,c1,fr1⟩:=h.addVal (id:=id) h1 nd1 (fun b hb=>hF b (by simp[hb])) (fun p hp=>hid p (by simp[a0o,hp])) d1 hR
  have hne:∀ p∈a0o (id+20) vs,a0f (a1d id v.cells) p.1=none:=fun p hp=>d8u fun q hq e=>d3 q.1 (List.mem_map.2 ⟨q,hq,rfl⟩) p.1 (List.mem_map.2 ⟨p,hp,rfl⟩) e
  obtain⟨G2,lk2,k1,k2,k3,k4,k5⟩:=a0l.addVals (vs:=vs) (xs:=xs) (fp:=f2) (id:=id+20) i1 h2 nd2
   (fr1 f2 (fun b hb=>hF b (by simp[hb])) (fun b hb hb'=>nd3 b hb' b hb rfl)) (fun p hp=>by rw[l1 p.1];unfold lkx;rw[hne p hp];exact hid p (by simp[a0o,hp])) d2 (fun j hj=>hR j (by omega))
  refine⟨G2,lk2,fun i=>?_,k2,e1.trans k3,⟨c1.ext k3,k4⟩,fun fq hq hdis=>k5 fq (fr1 fq hq fun b hb hb'=>hdis b hb (by simp[hb'])) fun b hb hb'=>hdis b hb (by simp[hb'])⟩
  rw[k1 i,show lk1=lkx (a1d id v.cells) lk from funext l1]
  exact e7x hne lk i
 | [],_::_,_,_,_,_,_,hO,_,_,_,_,_=>hO.elim
 | _::_,[],_,_,_,_,_,hO,_,_,_,_,_=>hO.elim
theorem b3l(r r':List (Nat×a0d))(i:Nat):a0f (r++r') i=lkx r (a0f r') i:=by
 unfold lkx
 induction r with
 | nil=>rfl
 | cons p r ih =>
  obtain⟨k,o⟩:=p
  rw[List.cons_append,a2j,a2j]
  by_cases hj:i=k
  ·simp[hj]
  ·simpa [hj] using ih
theorem d0j{id:Nat}{res:List TV}{x:Value}{fp:List Nat}(h:d1e w res x fp):∃ xs,c5r w res xs fp∧∀ (G:Gh) (lk:Nat→Option a0d),a0g (TR c G lk w) (d1t id res) xs→VR c G lk w (a6p id res) x:=by
 match res,h with
 | [v],h=>exact⟨[x],⟨fp,[],by simp,h,rfl⟩,fun G lk ha=>ha.1.toVR⟩
 | [],h =>
  obtain⟨l,h1,h2⟩:=h
  exact⟨l,h2,fun G lk ha=>⟨l,h1,ha⟩⟩
 | v::u::r,h =>
  obtain⟨l,h1,h2⟩:=h
  exact⟨l,h2,fun G lk ha=>⟨l,h1,ha⟩⟩
end
section
variable {c:Ctx} {G:Gh} {s:a0c} {a:Act} {w w':World}
theorem a1y:∀ {l:List Nat},a4a l=true→l.Nodup
 | [],_=>List.nodup_nil
 | a::r,h=>by
  simp only[a4a] at h
  split at h
  ·cases h
  ·rename_i hc
   exact List.nodup_cons.2 ⟨by simpa using hc,a1y h⟩
theorem d9z(hE:a0r c.P c.E)(h:Inv c G s a w){o:Oper}{f:FuncId}{Ts:List TypeId}{vs:List AV}{xs:List Value}{as:List Arg}{pre:Vc}{res:List TV}{d b:Nat}{Q:Exit→Act→World→Prop}
  (has:a8u c.E s.look Ts vs=some as) (hxs:a0g (VR c G s.look w) vs xs) (hc:c.E.octr f as=some (pre,res)) (hpre:pre.ok) (hd:o.dst=some d)
  (hfree:∀ p∈a0o b res,s.look p.1=none) (hdup:((a0o b res).map (·.1)).Nodup) (hR:100≤b)
  (hrun:a5p c.P f→(execOp a.eval o).run c.P w = .ok (.enter f xs.toArray) w) :
  o.wp c.P a w (fun a' w'=>∃ G',Inv c G' { slots:=s.slots.set d (a6p b res),objs:=a0o b res++s.objs } a' w') Q:=by
 obtain⟨hfn,hcall⟩:=hE.octr f as pre res hc hpre
 unfold Oper.wp
 rw[hrun hfn]
 simp only[Oper.upon]
 refine (hcall w (SX G s.look) xs [] ?_ (.of_all2 (a6r hE h (fun _ _ h=>h) (fun _ h => .inl h) (fun τ v x y h1 h2=>b9r h.trees h.objs (fun _ _ h=>h) h1 h2) has hxs)) (.inl rfl) List.nodup_nil (by simp)).mono ?_
 ·exact h.sxOk
 ·rintro e w' ⟨x,fp,rfl,hk,hO,hnd,hfp⟩
  have hk:a1p (fun _=>False) w w':=⟨hk.os,hk.tape,hk.output,hk.size,fun b hb _=>hk.block b hb (by simp)⟩
  have hfp:∀ b∈fp,w.heap.size≤b∧b<w'.heap.size:=fun b hb=>(hfp b hb).resolve_left (by simp)
  have hI:=a0l.grow h hk (S':=G.S) (fun _ _=>Iff.rfl) (fun b hb=>Nat.lt_of_lt_of_le (h.sLt b hb) hk.size)
  obtain⟨ys,hO',hvr⟩:=d0j (c:=c) (id:=b) hO
  have hF:Fr c ⟨G.S,G.η,G.φ⟩ s.look w' fp:=fun b hb=>by
   obtain⟨h1,h2⟩:=hfp b hb
   have:=h.keep.size
   refine⟨.inl (by omega),fun hs=>?_,h2,fun i o' hi hbi=>?_,fun j τ zs hj hbj=>?_⟩
   ·have:=h.sLt b hs;omega
   ·have:=(h.place i o' b hi hbi).2.2;omega
   ·have:=(h.trees.pl j τ zs b hj hbj).2.2.1;omega
  obtain⟨G',lk',k1,k2,k3,k4,_⟩:=hI.addVals (id:=b) hO' hnd hF hfree hdup (fun j hj=>by
   cases hr:c.R j with
   | none=>rfl
   | some v=>have:=h.rng j v hr;omega)
  refine⟨G',?_⟩
  have hlk:a0c.look { slots:=s.slots.set d (a6p b res),objs:=a0o b res++s.objs }=lk':=by
   funext i
   rw[k1 i]
   exact b3l _ _ i
  unfold Inv
  rw[hlk,hd,show a0c.sl { slots:=s.slots.set d (a6p b res),objs:=a0o b res++s.objs }=a5y s.slots.length s.sl (some d) (a6p b res) from b1d s.slots d _ _,
   show ({ slots:=s.slots.set d (a6p b res),objs:=a0o b res++s.objs }:a0c).slots.length=s.slots.length from by simp]
  exact a0l.put k2 (hvr G' lk' k4)
end
end Go.Proofs.YtmdefiphdgcijaaDoor

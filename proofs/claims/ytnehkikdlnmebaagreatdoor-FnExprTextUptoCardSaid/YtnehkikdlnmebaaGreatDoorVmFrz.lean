/- VmTree, VmMark, VmOwnOps, VmBuild, VmBuild2, VmSt, VmStep, VmDraw, VmDraw2, VmDraw3, VmFrz. -/
import Derived.Test.YtnehkikdlnmebaaGreatDoorVmEff
import Derived.Eval
set_option linter.all false
namespace Go.Proofs.YtnehkikdlnmebaaGreatDoor
def a7g:=@List.cons_append
def a7u:=@List.mem_cons_of_mem
def a5Y:=@List.nodup_append
def a6T:=@List.nodup_nil
def a6m:=@List.nodup_cons
def a7b:=@List.take_append_drop
def a8n:=@List.set_append_right
def a7x:=@Bool.or_eq_true
def a6k:=@Bool.not_eq_true'
def a7W:=@Nat.lt_irrefl
def a9H:=@Array.toList_append
def a9w:=@Go.heap_alloc_old
def a9j:=@Nat.beq_refl
def a8F:=@List.mem_cons_self
def a7Q:=@List.mem_range
def a8C:=@Classical.byContradiction
def a8I:=@List.nodup_range
def a8i:=@List.Nodup.length_le_of_subset
def a7r:=@Go.Oper.wp_mono
def a9x:=@List.getElem?_eq_none
def a8u:=@Option.getD_some
def a7i:=@List.any_eq_false
def a7X:=@List.foldl_append
def a8o:=@List.singleton_append
def a7I:=@List.length_erase_of_mem
def a7S:=@List.length_pos_of_mem
def a6U:=@List.mem_filter
def a8J:=@Array.all_eq_true_iff_forall_mem
def a6Q:=@Array.getElem?_eq_some_iff
def a9Q:=@Ne.symm
def a8j:=@List.eq_nil_iff_forall_not_mem
def a6P:=@Array.size_setIfInBounds
def a7z:=@of_decide_eq_false
def a7U:=@Nat.testBit_two_pow_sub_one
def a9B:=@Classical.not_forall
def a9g:=@Classical.not_imp
def a7Y:=@List.mem_append_left
section
variable {c:Ctx} {G:Gh} {sl:Nat->AV} {n:Nat} {lk:Nat->Option av} {a:Act} {w w':World}
theorem bn.Ny(h:bn c G sl n lk a w)(id:Nat)(τ:Ty)(xs:List τ.den)(Wx:Value)(fp:List Nat)(aW:lk id=none)(hs:∀ i,(sl i).refs id=false)(ho:∀ i o,lk i=some o->o.refs id=false)
  (a3Q:c.R id=none) (hT:km w Wx τ xs fp) (dC:fp.Nodup) (VY:∀ b∈fp,(c.w0.heap.size<=b\/c.X b)/\¬ G.S b/\b<w.heap.size/\(∀ i o,lk i=some o->dS (G.η i)≠some b)/\∀ j τ xs,lk j=some (.aB τ xs)->b∉G.φ j) :
  bn c ⟨G.S,λ i=>if i=id then Wx else G.η i,λ i=>if i=id then fp else G.φ i⟩ sl n (λ i=>if i=id then some (.aB τ xs) else lk i) a w:=by
 have gd:∀ j,j≠id->er (lk j) ((λ i=>if i=id then some (av.aB τ xs) else lk i) j)/\(if j=id then Wx else G.η j)=G.η j:=λ j hj=>by simp only[a5J hj];exact⟨er.refl _,trivial⟩
 have BT:dS Wx=none:=by
  obtain⟨v,l,_,_,h1,_⟩:=hT
  rw[h1];rfl
 have kP:∀ i b,dS (if i=id then Wx else G.η i)=some b->i≠id/\dS (G.η i)=some b:=λ i b hb=>by
  by_cases hi:i=id
  .rw[a5T hi,BT] at hb;cases hb
  .rw[a5J hi] at hb;exact⟨hi,hb⟩
 have hold:∀ j aZ cX,(if j=id then some (av.aB τ xs) else lk j)=some (.aB aZ cX)->j≠id->lk j=some (.aB aZ cX):=λ j aZ cX k hj=>by rwa [a5J hj] at k
 exact {
  defers:=h.defers,size:=h.size,aM:=h.aM,mO:=h.mO,eF:=h.eF,sX:=h.sX,dX:=h.dX
  aw:=λ i=>(h.aw i).mono (λ j hj=>gd j (λ e=>by subst e;rw[hs i] at hj;cases hj)) (λ _ h=>h) (λ _ _=>rfl)
  aH:=λ i o' cm=>by
   by_cases hi:i=id
   .subst hi
    simp only[a7O,a5E] at cm
    subst cm
    trivial
   .simp only[a5J hi] at cm
    exact (h.aH i o' cm).mono (by simp only[a5J hi]) (λ _ _=>rfl) (λ j hj=>gd j (λ e=>by subst e;rw[ho i o' cm] at hj;cases hj)) (λ _ h=>h) (λ _ _=>rfl)
  place:=λ i o' b cm hb=>by
   obtain⟨hi,hb⟩:=kP i b hb
   simp only[a5J hi] at cm
   exact h.place i o' b cm hb
  apart:=λ i j o1 o2 b cm FA hb cw=>by
   obtain⟨hi,hb⟩:=kP i b hb
   obtain⟨hj,cw⟩:=kP j b cw
   simp only[a5J hi] at cm
   simp only[a5J hj] at FA
   exact h.apart i j o1 o2 b cm FA hb cw
  aT:={
   tr:=λ j aZ cX k=>by
    by_cases hj:j=id
    .subst hj
     simp only[a7O,a5E,av.aB.injEq] at k ⊢
     obtain⟨rfl,k⟩:=k
     have k:=a9q k
     subst k
     exact hT
    .simp only[a5J hj]
     exact h.aT.tr j aZ cX (hold j aZ cX k hj)
   nd:=λ j aZ cX k=>by
    by_cases hj:j=id
    .simp only[a5T hj];exact dC
    .simp only[a5J hj]
     exact h.aT.nd j aZ cX (hold j aZ cX k hj)
   pl:=λ j aZ cX b k hb=>by
    have fin:(∀ i o,lk i=some o->dS (G.η i)≠some b)->∀ i o,(if i=id then some (av.aB τ xs) else lk i)=some o->dS (if i=id then Wx else G.η i)≠some b:=λ hh i o cm e=>by
     obtain⟨hi,e⟩:=kP i b e
     rw[a5J hi] at cm
     exact hh i o cm e
    by_cases hj:j=id
    .simp only[a5T hj] at hb
     obtain⟨q1,q2,q3,q4,q5⟩:=VY b hb
     exact⟨q1,q2,q3,fin q4⟩
    .simp only[a5J hj] at hb
     obtain⟨q1,q2,q3,q4⟩:=h.aT.pl j aZ cX b (hold j aZ cX k hj) hb
     exact⟨q1,q2,q3,fin q4⟩
   ap:=λ j j' OH mr OG oB b k k' hb cw=>by
    by_cases hj:j=id
    .by_cases yi:j'=id
     .rw[hj,yi]
     .simp only[a5T hj] at hb
      simp only[a5J yi] at cw
      exact absurd cw ((VY b hb).2.2.2.2 j' mr oB (hold j' mr oB k' yi))
    .by_cases yi:j'=id
     .simp only[a5J hj] at hb
      simp only[a5T yi] at cw
      exact absurd hb ((VY b cw).2.2.2.2 j OH OG (hold j OH OG k hj))
     .simp only[a5J hj] at hb
      simp only[a5J yi] at cw
      exact h.aT.ap j j' OH mr OG oB b (hold j OH OG k hj) (hold j' mr oB k' yi) hb cw }
  root:=λ j v hr ht=>by
   have dU:j≠id:=λ e=>by subst e;rw[a3Q] at hr;cases hr
   simp only[a5J dU] at ht ⊢
   exact h.root j v hr ht
  ka:=h.ka
  dF:=λ j v hr ht=>by
   by_cases hj:j=id
   .simp only[a5T hj] at ht;cases ht
   .simp only[a5J hj] at ht ⊢
    exact h.dF j v hr ht
  fJ:=h.fJ }
def uK(c:Ctx)(G:Gh)(lk:Nat->Option av)(w:World)(b:Nat):Prop :=
 (c.w0.heap.size<=b\/c.X b)/\¬ G.S b/\b<w.heap.size/\(∀ i o,lk i=some o->dS (G.η i)≠some b)/\∀ j τ xs,lk j=some (.aB τ xs)->b∉G.φ j
structure D6(c:Ctx)(G:Gh)(lk lk':Nat->Option av)(w w':World)(rB:Nat->Value)(pZ:Nat->List Nat)(I:Nat->Prop):Prop where
 same:∀ id,¬ I id->lk' id=lk id/\rB id=G.η id/\pZ id=G.φ id
 aB:∀ id,I id->∃ τ xs cX v l l',lk id=some (.aB τ xs)/\lk' id=some (.aB τ cX)/\G.η id = .tuple (v::l).toArray/\rB id = .tuple (v::l').toArray/\km w' (rB id) τ cX (pZ id)/\(pZ id).Nodup
 a0z:∀ id b,I id->b∈pZ id->(∃ dD,I dD/\b∈G.φ dD)\/uK c G lk w' b
 apart:∀ id dD b,I id->I dD->b∈pZ id->b∈pZ dD->id=dD
 heap:∀ b,b<w.heap.size->(∀ id,I id->b∉G.φ id)->w'.heap[b]?=w.heap[b]?
 os:w'.os=w.os
 tape:w'.tape=w.tape
 output:w'.output=w.output
 size:w.heap.size<=w'.heap.size
theorem uK.grow{lk:Nat->Option av}{b:Nat}(h:uK c G lk w b)(hs:w.heap.size<=w'.heap.size):uK c G lk w' b :=
 ⟨h.1,h.2.1,a5Q h.2.2.1 hs,h.2.2.2⟩
theorem D6.a2E{rB:Nat->Value}{pZ:Nat->List Nat}{I:Nat->Prop}{lk':Nat->Option av}(t:D6 c G lk lk' w w' rB pZ I)(id:Nat):er (lk id) (lk' id):=by
 by_cases hi:I id
 .obtain⟨τ,xs,cX,_,_,_,h1,h2,_⟩:=t.aB id hi
  rw[h1,h2]
  exact⟨λ h=>(by cases h),(λ e τ xs h=>by cases h),(λ _=>rfl),λ hh=>by cases hh⟩
 .rw[(t.same id hi).1];exact er.refl _
theorem C1.fh{rB:Nat->Value}{pZ:Nat->List Nat}{I:Nat->Prop}{lk':Nat->Option av}(t:D6 c G lk lk' w w' rB pZ I)(cp:∀ b,St c G.S b->w'.heap[b]?=w.heap[b]?){u:AV}{x:Value}(hu:u.Ib=false)(h:C1 c G lk w u x):C1 c ⟨G.S,rB,pZ⟩ lk' w' u x:=by
 have key:(∀ id,u.refs id=true->¬ I id)->C1 c ⟨G.S,rB,pZ⟩ lk' w' u x:=λ hk=>h.mono (λ id aW=>⟨t.a2E id,(t.same id (hk id aW)).2.1⟩) (λ _ h=>h) cp
 have Z0:∀ id,df (lk id)=false->¬ I id:=λ id hn hi=>by
  obtain⟨τ,xs,_,_,_,_,h1,_⟩:=t.aB id hi
  rw[h1] at hn;cases hn
 cases u with
 | aB id =>
  obtain⟨h1,l,h2,h3⟩:=h
  by_cases hi:I id
  .obtain⟨τ,xs,cX,v,l0,l',k1,k2,k3,k4,_⟩:=t.aB id hi
   rw[k3] at h2
   simp only[a7h,a8s,a5L] at h2
   obtain⟨rfl,_⟩:=h2
   exact⟨by rw[k2];rfl,l',k4,h3⟩
  .exact key λ j hj=>by
    have:=a5F (show Nat.beq id j=true from hj)
    subst this;exact hi
 | eH id i off sz =>
  obtain⟨h1,b,n,cap,l,h2,h3⟩:=h
  by_cases hi:I id
  .obtain⟨τ,xs,cX,v,l0,l',k1,k2,k3,k4,_⟩:=t.aB id hi
   rw[k3] at h2
   simp only[a7h,a8s,a5L] at h2
   obtain⟨rfl,_⟩:=h2
   exact⟨by rw[k2];rfl,b,n,cap,l',k4,h3⟩
  .exact key λ j hj=>by
    have:=a5F (show Nat.beq id j=true from hj)
    subst this;exact hi
 | sub id i off sz=>cases hu
 | ptr id off =>
  refine key λ j hj=>?_
  have:=a5F (show Nat.beq id j=true from hj)
  subst this
  obtain⟨_,_,_,h3⟩:=h
  exact Z0 id (by match hl:lk id,h3 with|some (.box _),_=>rfl)
 | row id =>
  refine key λ j hj=>?_
  have:=a5F (show Nat.beq id j=true from hj)
  subst this
  exact Z0 id (sJ h.2.1)
 | ei id i off =>
  refine key λ j hj=>?_
  have:=a5F (show Nat.beq id j=true from hj)
  subst this
  obtain⟨_,_,_,_,_,_,_,h3,_⟩:=h
  exact Z0 id (by rw[h3];rfl)
 | mp id =>
  refine key λ j hj=>?_
  have:=a5F (show Nat.beq id j=true from hj)
  subst this
  exact Z0 id (EA h.2.1)
 | agg cs=>exact h.elim
 | j8 cs=>exact h.elim
 | di f cs=>exact h.elim
 | _=>exact key λ j hj=>by cases hj
theorem pU:∀ {cs:List AV} {v:AV},AV.pT cs=false->v∈cs->v.Ib=false
 | u::r,v,h,hm=>by
  simp only[AV.pT] at h
  split at h
  .cases h
  .rename_i hu
   rcases a5P.1 hm with rfl|hm
   .exact hu
   .exact pU h hm
theorem CR.fh{rB:Nat->Value}{pZ:Nat->List Nat}{I:Nat->Prop}{lk':Nat->Option av}(t:D6 c G lk lk' w w' rB pZ I)(cp:∀ b,St c G.S b->w'.heap[b]?=w.heap[b]?){u:AV}{x:Value}(hu:u.Ib=false)(h:CR c G lk w u x):CR c ⟨G.S,rB,pZ⟩ lk' w' u x:=by
 cases u with
 | aS v=>exact eI.mono (G:=G) (G':=⟨G.S,rB,pZ⟩) h (λ _ h=>h) (λ b hb=>cp b (.inl hb))
 | agg cs =>
  obtain⟨l,h1,h2⟩:=h
  exact⟨l,h1,h2.imp λ u y hm hy=>hy.fh t cp (pU (show AV.pT cs=false from hu) hm)⟩
 | _=>exact C1.S8 (C1.fh t cp hu h)
theorem VR.fh{rB:Nat->Value}{pZ:Nat->List Nat}{I:Nat->Prop}{lk':Nat->Option av}(t:D6 c G lk lk' w w' rB pZ I)(cp:∀ b,St c G.S b->w'.heap[b]?=w.heap[b]?){u:AV}{x:Value}(hu:u.Ib=false)(h:VR c G lk w u x):VR c ⟨G.S,rB,pZ⟩ lk' w' u x:=by
 cases u with
 | aS v=>exact eI.mono (G:=G) (G':=⟨G.S,rB,pZ⟩) h (λ _ h=>h) (λ b hb=>cp b (.inl hb))
 | agg cs =>
  obtain⟨l,h1,h2⟩:=h
  exact⟨l,h1,h2.imp λ u y hm hy=>hy.fh t cp (pU (show AV.pT cs=false from hu) hm)⟩
 | j8 vs =>
  obtain⟨l,h1,h2⟩:=h
  refine⟨l,h1,h2.imp λ u y hm hy=>?_⟩
  have hu':=pU (show AV.pT vs=false from hu) hm
  cases u with
  | any=>trivial
  | aS v=>exact eI.mono (G:=G) (G':=⟨G.S,rB,pZ⟩) hy (λ _ h=>h) (λ b hb=>cp b (.inl hb))
  | aB i=>exact C1.fh (u := .aB i) t cp rfl hy
  | agg cs =>
   obtain⟨l,h1,h2⟩:=hy
   exact⟨l,h1,h2.imp λ u y hm hy=>hy.fh t cp (pU (show AV.pT cs=false from hu') hm)⟩
  | _=>exact hy.elim
 | any=>trivial
 | eC=>exact h
 | nil=>exact (C1.fh (u := .nil) t cp hu h).hJ
 | fX u=>exact (C1.fh (u := .fX u) t cp hu h).hJ
 | ptr i o=>exact (C1.fh (u := .ptr i o) t cp hu h).hJ
 | row i=>exact (C1.fh (u := .row i) t cp hu h).hJ
 | ei i k o=>exact (C1.fh (u := .ei i k o) t cp hu h).hJ
 | fn f=>exact (C1.fh (u := .fn f) t cp hu h).hJ
 | aB i=>exact (C1.fh (u := .aB i) t cp hu h).hJ
 | sub i k o z=>cases hu
 | mp i=>exact (C1.fh (u := .mp i) t cp hu h).hJ
 | eH i k o z=>exact (C1.fh (u := .eH i k o z) t cp hu h).hJ
 | jE v=>exact (C1.fh (u := .jE v) t cp hu h).hJ
 | di f cs =>
  obtain⟨l,h1,h2⟩:=h
  exact⟨l,h1,h2.imp λ u y hm hy=>hy.fh t cp (pU (show AV.pT cs=false from hu) hm)⟩
theorem bn.fh(h:bn c G sl n lk a w){rB:Nat->Value}{pZ:Nat->List Nat}{I:Nat->Prop}{lk':Nat->Option av}(t:D6 c G lk lk' w w' rB pZ I)(hs:∀ i,(sl i).Ib=false)(Ja:∀ id cs,lk id=some (.box cs)->AV.pT cs=false) :
  bn c ⟨G.S,rB,pZ⟩ sl n lk' a w':=by
 have pl:∀ id b,I id->b∈G.φ id->(c.w0.heap.size<=b\/c.X b)/\¬ G.S b/\b<w.heap.size/\∀ i o,lk i=some o->dS (G.η i)≠some b:=λ id b hi hb=>by
  obtain⟨τ,xs,_,_,_,_,h1,_⟩:=t.aB id hi
  exact h.aT.pl id τ xs b h1 hb
 have U3:∀ b,b<w.heap.size->((c.w0.heap.size<=b\/c.X b)->False)->w'.heap[b]?=w.heap[b]?:=λ b hb hn=>t.heap b hb λ id hi jG=>hn (pl id b hi jG).1
 have cp:∀ b,St c G.S b->w'.heap[b]?=w.heap[b]?:=λ b hb=>by
  rcases hb with hb|hb
  .exact t.heap b (h.dX b hb) λ id hi jG=>(pl id b hi jG).2.1 hb
  .exact U3 b (a5Q hb.1 h.aM.size) λ hn=>hn.elim (λ q=>by omega) hb.2.1
 have kP:∀ id o b,lk id=some o->dS (G.η id)=some b->w'.heap[b]?=w.heap[b]?:=λ id o b ho hb =>
  t.heap b (h.place id o b ho hb).2.2 λ j hj jG=>(pl j b hj jG).2.2.2 id o ho hb
 have gQ:∀ id b,dS (rB id)=some b->¬ I id/\dS (G.η id)=some b:=λ id b hb=>by
  by_cases hi:I id
  .obtain⟨_,_,_,_,_,_,_,_,_,h4,_⟩:=t.aB id hi
   rw[h4] at hb;cases hb
  .rw[(t.same id hi).2.1] at hb;exact⟨hi,hb⟩
 have uu:∀ id τ xs b,lk' id=some (.aB τ xs)->b∈pZ id->(∃ dD aZ cX,lk dD=some (.aB aZ cX)/\b∈G.φ dD/\(¬ I id->dD=id)/\(I id->I dD))\/(I id/\uK c G lk w' b):=λ id τ xs b aW hb=>by
  by_cases hi:I id
  .rcases t.a0z id b hi hb with ⟨dD,oj,cw⟩|Qj
   .obtain⟨aZ,cX,_,_,_,_,h1,_⟩:=t.aB dD oj
    exact .inl ⟨dD,aZ,cX,h1,cw,λ hn=>absurd hi hn,λ _=>oj⟩
   .exact .inr ⟨hi,Qj⟩
  .obtain⟨h1,h2,h3⟩:=t.same id hi
   rw[h1] at aW
   rw[h3] at hb
   exact .inl ⟨id,τ,xs,aW,hb,λ _=>rfl,λ oj=>absurd oj hi⟩
 exact {
  defers:=h.defers,size:=h.size
  aM:=h.aM.trans (Y:=λ b=>c.w0.heap.size<=b\/c.X b) ⟨t.os,t.tape,t.output,t.size,λ b hb hn=>U3 b hb hn⟩ λ i hi hy=>hy.elim (λ q=>by omega) id
  mO:=h.mO,eF:=h.eF,sX:=h.sX
  dX:=λ b hb=>a5Q (h.dX b hb) t.size
  aw:=λ i=>(h.aw i).fh t cp (hs i)
  aH:=λ id o aW=>by
   by_cases hi:I id
   .obtain⟨τ,xs,cX,_,_,_,_,h2,_⟩:=t.aB id hi
    rw[h2] at aW
    simp only[a5E] at aW
    subst aW
    trivial
   .obtain⟨h1,h2,h3⟩:=t.same id hi
    rw[h1] at aW
    have ho:=h.aH id o aW
    cases o with
    | box cs =>
     obtain⟨b,l,ty,k1,k2,k3⟩:=ho
     refine⟨b,l,ty,h2.trans k1,?_,k3.imp λ u y hm hy=>hy.fh t cp (pU (Ja id cs aW) hm)⟩
     rw[kP id _ b aW (by rw[k1];rfl)];exact k2
    | row e τ xs =>
     obtain⟨l,k1,k2,k3⟩:=ho
     refine⟨l,?_,dA.aM (λ _ h=>h) (λ b hb=>cp b (.inl hb)) _ k2,k3⟩
     rw[show (⟨G.S,rB,pZ⟩:Gh).η id=G.η id from h2]
     exact EC k1 λ b hb=>kP id _ b aW hb
    | aB τ xs=>trivial
    | map m =>
     obtain⟨b,es,clock,k1,k2,k3⟩:=ho
     exact⟨b,es,clock,h2.trans k1,(kP id _ b aW (by rw[k1];rfl)).trans k2,k3⟩
  place:=λ id o b aW hb=>by
   obtain⟨hi,hb⟩:=gQ id b hb
   rw[(t.same id hi).1] at aW
   obtain⟨q1,q2,q3⟩:=h.place id o b aW hb
   exact⟨q1,q2,a5Q q3 t.size⟩
  apart:=λ id dD o o' b aW B3 hb cw=>by
   obtain⟨hi,hb⟩:=gQ id b hb
   obtain⟨oj,cw⟩:=gQ dD b cw
   rw[(t.same id hi).1] at aW
   rw[(t.same dD oj).1] at B3
   exact h.apart id dD o o' b aW B3 hb cw
  aT:={
   tr:=λ id τ xs aW=>by
    by_cases hi:I id
    .obtain⟨τ0,xs0,cX,v,l,l',h1,h2,h3,h4,h5,h6⟩:=t.aB id hi
     rw[h2] at aW
     simp only[a5E,av.aB.injEq] at aW
     obtain⟨rfl,aW⟩:=aW
     have aW:=a9q aW
     subst aW
     exact h5
    .obtain⟨h1,h2,h3⟩:=t.same id hi
     rw[h1] at aW
     rw[show (⟨G.S,rB,pZ⟩:Gh).η id=G.η id from h2,show (⟨G.S,rB,pZ⟩:Gh).φ id=G.φ id from h3]
     exact (h.aT.tr id τ xs aW).aM λ b hb=>t.heap b (h.aT.pl id τ xs b aW hb).2.2.1 λ j hj jG=>by
      obtain⟨aZ,cX,_,_,_,_,k1,_⟩:=t.aB j hj
      have:=h.aT.ap id j τ aZ xs cX b aW k1 hb jG
      subst this
      exact hi hj
   nd:=λ id τ xs aW=>by
    by_cases hi:I id
    .obtain⟨_,_,_,_,_,_,_,_,_,_,_,h6⟩:=t.aB id hi
     exact h6
    .obtain⟨h1,h2,h3⟩:=t.same id hi
     rw[h1] at aW
     rw[show (⟨G.S,rB,pZ⟩:Gh).φ id=G.φ id from h3]
     exact h.aT.nd id τ xs aW
   pl:=λ id τ xs b aW hb=>by
    have hq:(c.w0.heap.size<=b\/c.X b)/\¬ G.S b/\b<w'.heap.size/\∀ i o,lk i=some o->dS (G.η i)≠some b:=by
     rcases uu id τ xs b aW hb with ⟨dD,aZ,cX,k1,k2,_⟩|⟨_,f1,f2,f3,f4,_⟩
     .obtain⟨f1,f2,f3,f4⟩:=h.aT.pl dD aZ cX b k1 k2
      exact⟨f1,f2,a5Q f3 t.size,f4⟩
     .exact⟨f1,f2,f3,f4⟩
    obtain⟨q1,q2,q3,q4⟩:=hq
    refine⟨q1,q2,q3,λ i o cm vb=>?_⟩
    obtain⟨hi,vb⟩:=gQ i b vb
    rw[(t.same i hi).1] at cm
    exact q4 i o cm vb
   ap:=λ id dD τ aZ xs cX b aW B3 hb cw=>by
    by_cases hi:I id
    .by_cases oj:I dD
     .exact t.apart id dD b hi oj hb cw
     .rcases uu dD aZ cX b B3 cw with ⟨j',mr,oB,m1,m2,m3,_⟩|⟨q,_⟩
      .rcases uu id τ xs b aW hb with ⟨j,OH,OG,k1,k2,_,k4⟩|⟨_,Qj⟩
       .have:=h.aT.ap j j' _ _ _ _ b k1 m1 k2 m2
        have e:=m3 oj
        subst e this
        exact absurd (k4 hi) oj
       .exact absurd m2 (Qj.2.2.2.2 j' mr oB m1)
      .exact absurd q oj
    .by_cases oj:I dD
     .rcases uu id τ xs b aW hb with ⟨j,OH,OG,k1,k2,k3,_⟩|⟨q,_⟩
      .rcases uu dD aZ cX b B3 cw with ⟨j',mr,oB,m1,m2,_,m4⟩|⟨_,Qj⟩
       .have:=h.aT.ap j j' _ _ _ _ b k1 m1 k2 m2
        have e:=k3 hi
        subst e this
        exact absurd (m4 oj) hi
       .exact absurd k2 (Qj.2.2.2.2 j OH OG k1)
      .exact absurd q hi
     .rcases uu id τ xs b aW hb with ⟨j,OH,OG,k1,k2,k3,_⟩|⟨q,_⟩
      .rcases uu dD aZ cX b B3 cw with ⟨j',mr,oB,m1,m2,m3,_⟩|⟨q,_⟩
       .have:=h.aT.ap j j' _ _ _ _ b k1 m1 k2 m2
        exact (k3 hi).symm.trans (this.trans (m3 oj))
       .exact absurd q oj
      .exact absurd q hi }
  root:=λ id v hr ht=>by
   by_cases hi:I id
   .obtain⟨τ,xs,cX,v0,l,l',k1,k2,k3,k4,_⟩:=t.aB id hi
    obtain⟨l2,h2⟩:=h.root id v hr (by rw[k1];rfl)
    rw[k3] at h2
    simp only[a7h,a8s,a5L] at h2
    obtain⟨rfl,_⟩:=h2
    exact⟨l',k4⟩
   .obtain⟨h1,h2,_⟩:=t.same id hi
    rw[h1] at ht
    rw[show (⟨G.S,rB,pZ⟩:Gh).η id=G.η id from h2]
    exact h.root id v hr ht
  ka:=h.ka
  dF:=λ id v hr ht=>by
   by_cases hi:I id
   .obtain⟨τ,xs,cX,v0,l,l',k1,k2,k3,k4,_⟩:=t.aB id hi
    rw[k2] at ht
    cases ht
   .obtain⟨h1,h2,_⟩:=t.same id hi
    rw[h1] at ht
    rw[show (⟨G.S,rB,pZ⟩:Gh).η id=G.η id from h2]
    exact h.dF id v hr ht
  fJ:=h.fJ }
theorem bn.NB(h:bn c G sl n lk a w){d:Nat}(hd:lk d=none):(∀ i,(sl i).refs d=false)/\∀ i o,lk i=some o->o.refs d=false:=by
 have c1:∀ (v:AV) (x:Value),C1 c G lk w v x->v.refs d=true->False:=λ v x hv hr=>by
  have l6:∀ i,Nat.beq i d=true->gG (lk i)=false/\isRow (lk i)=false/\df (lk i)=false/\∀ e τ xs,lk i≠some (.row e τ xs):=λ i hi=>by
   have:=a5F hi
   subst this
   rw[hd]
   exact⟨rfl,rfl,rfl,λ _ _ _=>by simp⟩
  cases v with
  | ptr i o=>obtain⟨_,_,_,h3⟩:=hv;rw[(l6 i hr).1] at h3;cases h3
  | row i=>obtain⟨_,h3,_⟩:=hv;rw[(l6 i hr).2.1] at h3;cases h3
  | ei i k o=>obtain⟨_,_,_,_,_,_,_,h3,_⟩:=hv;exact (l6 i hr).2.2.2 _ _ _ h3
  | aB i=>have h3:=hv.1;rw[(l6 i hr).2.2.1] at h3;cases h3
  | sub i k o z=>have h3:=hv.1;rw[(l6 i hr).2.2.1] at h3;cases h3
  | eH i k o z=>have h3:=hv.1;rw[(l6 i hr).2.2.1] at h3;cases h3
  | mp i =>
   have h3:=hv.2.1
   have:=a5F (show Nat.beq i d=true from hr)
   subst this
   rw[hd] at h3;cases h3
  | agg cs=>exact hv
  | j8 cs=>exact hv
  | di f cs=>exact hv
  | _=>cases hr
 have cL:∀ (cs:List AV) (l:List Value),aN (C1 c G lk w) cs l->AV.gI d cs=true->False:=by
  intro cs
  induction cs with
  | nil=>intro l _ hr;cases hr
  | cons v r ih =>
   intro l hl hr
   match l,hl with
   | x::l,hl =>
    simp only[AV.gI] at hr
    split at hr
    .rename_i hv;exact c1 v x hl.1 hv
    .exact ih l hl.2 hr
 refine⟨λ i=>?_,λ i o ho=>?_⟩
 .cases hr:(
        sl i).refs d with
  | false=>rfl
  | true =>
   have hv:=h.aw i
   revert hv hr
   generalize a.tmps.getD i undef=x
   cases sl i with
   | aS u=>intro hr;cases hr
   | agg cs =>
    intro hr hv
    obtain⟨l,_,hl⟩:=hv
    exact (cL cs l hl hr).elim
   | j8 vs =>
    intro hr hv
    obtain⟨l,_,hl⟩:=hv
    have:∀ (
         vs:List AV) (l:List Value),aN (TR c G lk w) vs l->AV.gI d vs=true->False:=by
     intro vs
     induction vs with
     | nil=>intro l _ hr;cases hr
     | cons v r ih =>
      intro l hl hr
      match l,hl with
      | x::l,hl =>
       simp only[AV.gI] at hr
       split at hr
       .rename_i hv
        have h1:=hl.1
        cases v with
        | aB i=>exact c1 (.aB i) x h1 hv
        | agg cs =>
         obtain⟨l',_,sT⟩:=h1
         exact cL cs l' sT hv
        | aS u=>cases hv
        | any=>cases hv
        | _=>exact h1
       .exact ih l hl.2 hr
    exact (this vs l hl hr).elim
   | di f vs =>
    intro hr hv
    obtain⟨l,_,hl⟩:=hv
    have:∀ (vs:List AV) (l:List Value),aN (CR c G lk w) vs l->AV.gI d vs=true->False:=by
     intro vs
     induction vs with
     | nil=>intro l _ hr;cases hr
     | cons v r ih =>
      intro l hl hr
      match l,hl with
      | x::l,hl =>
       simp only[AV.gI] at hr
       split at hr
       .rename_i hv
        rcases hl.1.inv with ⟨u,rfl,_⟩|⟨cs,l',rfl,_,sT⟩|h1
        .cases hv
        .exact cL cs l' sT hv
        .exact c1 _ x h1 hv
       .exact ih l hl.2 hr
    exact (this vs l hl hr).elim
   | any=>intro hr;cases hr
   | eC=>intro hr;cases hr
   | nil=>intro hr;cases hr
   | fX u=>intro hr;cases hr
   | fn f=>intro hr;cases hr
   | jE v=>intro hr;cases hr
   | ptr i o=>intro hr hv;exact (c1 (.ptr i o) x hv hr).elim
   | row i=>intro hr hv;exact (c1 (.row i) x hv hr).elim
   | ei i k o=>intro hr hv;exact (c1 (.ei i k o) x hv hr).elim
   | aB i=>intro hr hv;exact (c1 (.aB i) x hv hr).elim
   | sub i k o z=>intro hr hv;exact (c1 (.sub i k o z) x hv hr).elim
   | eH i k o z=>intro hr hv;exact (c1 (.eH i k o z) x hv hr).elim
   | mp i=>intro hr hv;exact (c1 (.mp i) x hv hr).elim
 .cases hr:o.refs d with
  | false=>rfl
  | true =>
   cases o with
   | row e τ xs=>cases hr
   | aB τ xs=>cases hr
   | map m=>cases hr
   | box cs =>
    obtain⟨b,l,t,_,_,k3⟩:=h.aH i _ ho
    exact (cL cs l k3 hr).elim
structure Ext(G:Gh)(lk:Nat->Option av)(G':Gh)(lk':Nat->Option av):Prop where
 S:G'.S=G.S
 Wb:∀ i o,lk i=some o->lk' i=some o/\G'.η i=G.η i/\G'.φ i=G.φ i
theorem Ext.refl(G:Gh)(lk:Nat->Option av):Ext G lk G lk:=⟨rfl,λ _ _ h=>⟨h,rfl,rfl⟩⟩
theorem Ext.trans{G1 G2 G3:Gh}{l1 l2 l3:Nat->Option av}(h:Ext G1 l1 G2 l2)(k:Ext G2 l2 G3 l3):Ext G1 l1 G3 l3 :=
 ⟨k.S.trans h.S,λ i o ho=>by
  obtain⟨a1,a2,a3⟩:=h.Wb i o ho
  obtain⟨b1,b2,b3⟩:=k.Wb i o a1
  exact⟨b1,b2.trans a2,b3.trans a3⟩⟩
theorem C1.ext{G':Gh}{lk':Nat->Option av}(e:Ext G lk G' lk'){v:AV}{x:Value}(h:C1 c G lk w v x):C1 c G' lk' w v x:=by
 refine h.mono (λ id aW=>?_) (λ b hb=>by rw[e.S];exact hb) (λ _ _=>rfl)
 have dU:lk id≠none:=λ hn=>by
  cases v with
  | ptr i o=>have:=a5F (show Nat.beq i id=true from aW);subst this;obtain⟨_,_,_,h3⟩:=h;rw[hn] at h3;cases h3
  | row i=>have:=a5F (show Nat.beq i id=true from aW);subst this;obtain⟨_,h3,_⟩:=h;rw[hn] at h3;cases h3
  | ei i k o=>have:=a5F (show Nat.beq i id=true from aW);subst this;obtain⟨_,_,_,_,_,_,_,h3,_⟩:=h;rw[hn] at h3;cases h3
  | aB i=>have:=a5F (show Nat.beq i id=true from aW);subst this;have h3:=h.1;rw[hn] at h3;cases h3
  | sub i k o z=>have:=a5F (show Nat.beq i id=true from aW);subst this;have h3:=h.1;rw[hn] at h3;cases h3
  | eH i k o z=>have:=a5F (show Nat.beq i id=true from aW);subst this;have h3:=h.1;rw[hn] at h3;cases h3
  | mp i=>have:=a5F (show Nat.beq i id=true from aW);subst this;have h3:=h.2.1;rw[hn] at h3;cases h3
  | agg cs=>exact h
  | j8 cs=>exact h
  | di f cs=>exact h
  | _=>cases aW
 match hl:lk id,dU with
 | some o,_ =>
  obtain⟨h1,h2,_⟩:=e.Wb id o hl
  rw[h1]
  exact⟨er.refl _,h2⟩
def Fr(c:Ctx)(G:Gh)(lk:Nat->Option av)(w:World)(fp:List Nat):Prop :=
 ∀ b∈fp,(c.w0.heap.size<=b\/c.X b)/\¬ G.S b/\b<w.heap.size/\(∀ i o,lk i=some o->dS (G.η i)≠some b)/\∀ j τ xs,lk j=some (.aB τ xs)->b∉G.φ j
def iJ(news:List (Nat×av))(lk:Nat->Option av)(i:Nat):Option av:=match ae news i with
 | some o=>some o
 | none=>lk i
theorem X1(lk:Nat->Option av):iJ [] lk=lk:=rfl
theorem V5(id:Nat)(o:av)(r:List (Nat×av))(lk:Nat->Option av)(hr:ae r id=none):iJ r (λ i=>if i=id then some o else lk i)=iJ ((id,o)::r) lk:=by
 funext i
 unfold iJ
 rw[dE]
 by_cases hi:i=id
 .subst hi;rw[hr];simp
 .simp[hi]
theorem KB:∀ (r r':List (Nat×av)) (lk:Nat->Option av),iJ (r++r') lk=iJ r (iJ r' lk)
 | [],r',lk=>rfl
 | (id,o)::r,r',lk=>by
  funext i
  have:=congrFun (KB r r' lk) i
  unfold iJ at this ⊢
  rw[a7g,dE,dE]
  by_cases hi:i=id
  .simp[hi]
  .simpa [hi] using this
theorem km.X9{τ:Ty}{xs:List τ.den}{x:Value}{fp:List Nat}(h:Ow w (.slice τ.size (xs.map τ.aK)) [x] fp):∃ l,km w (.tuple (x::l).toArray) τ xs fp/\∃ a n m,x = .slice a n m:=by
 obtain⟨a',cap,h1,h2,h3,h4,h5⟩:=h
 simp only[a5L,a5R,a6B] at h1 h2 h4
 subst h1
 rcases h5 with ⟨hx,ha,hf⟩|⟨b,f,l,t,ha,hf,k1,k2⟩
 .refine⟨[],⟨_,[],a',cap,rfl,rfl,h2,h3,h4, .inl ⟨?_,ha,hf⟩⟩,_,_,_,rfl⟩
  simpa using hx
 .exact⟨l,⟨_,l,a',cap,rfl,rfl,h2,h3,h4, .inr ⟨b,f,t,ha,hf,k1,k2⟩⟩,_,_,_,rfl⟩
theorem Ow.a2q{η:Value}{τ:Ty}{xs:List τ.den}{fp:List Nat}(h:km w η τ xs fp){x:Value}{l:List Value}(hx:η = .tuple (x::l).toArray):Ow w (.slice τ.size (xs.map τ.aK)) [x] fp:=by
 obtain⟨v,l',a',cap,h1,h2,h3,h4,h5,h6⟩:=h
 rw[hx] at h1
 simp only[a7h,a8s,a5L] at h1
 obtain⟨rfl,rfl⟩:=h1
 refine⟨a',cap,by simp[h2],by simpa using h3,h4,by simpa using h5,?_⟩
 rcases h6 with ⟨rfl,q1,q2⟩|⟨b,f,t,q1,q2,q3,q4⟩
 .exact .inl ⟨rfl,q1,q2⟩
 .exact .inr ⟨b,f,l,t,q1,q2,q3,q4⟩
theorem gC:∀ {l:List (Nat×av)} {id:Nat} {o:av},ae l id=some o->(id,o)∈l
 | (k,p)::r,id,o,h=>by
  simp only[ae] at h
  split at h
  .rename_i hk
   have hk:=a5F hk
   simp only[a5E] at h
   subst hk h
   simp
  .exact a7u _ (gC h)
theorem bn.WL(h:bn c G sl n lk a w){u:TV}(hu:u.τ.agg=false){x:Value}{fp:List Nat}{id:Nat}(hO:Ow w u.aK [x] fp)(dC:fp.Nodup)(hF:Fr c G lk w fp)(aW:∀ p∈ga id u,lk p.1=none)(hR:c.R id=none) :
  ∃ G',bn c G' sl n (iJ (ga id u) lk) a w/\Ext G lk G' (iJ (ga id u) lk)/\C1 c G' (iJ (ga id u) lk) w (mj id u) x /\
   ∀ fq,Fr c G lk w fq->(∀ b∈fq,b∉fp)->Fr c G' (iJ (ga id u) lk) w fq:=by
 have xe:(ga id u=[]/\mj id u = .aS u)->∃ G',bn c G' sl n (iJ (ga id u) lk) a w/\Ext G lk G' (iJ (ga id u) lk)/\C1 c G' (iJ (ga id u) lk) w (mj id u) x /\
   ∀ fq,Fr c G lk w fq->(∀ b∈fq,b∉fp)->Fr c G' (iJ (ga id u) lk) w fq:=by
  rintro⟨e1,e2⟩
  rw[e1,e2]
  exact⟨G,h,Ext.refl _ _,⟨hu,hO.rd (S:=λ b=>b∈fp) _ (λ _ h=>h) |> λ hr=>by
   obtain⟨τ,y⟩:=u
   cases τ with
   | slice t=>simp[ga] at e1
   | mv t=>simp[mj] at e2
   | ptr=>exact hr
   | st s=>cases hu
   | int k=>exact hr
   | bool=>exact hr
   | str=>exact hr⟩,λ fq hq _=>hq⟩
 obtain⟨τ,y⟩:=u
 cases τ with
 | mv t=>exact⟨G,h,Ext.refl _ _,trivial,λ fq hq _=>hq⟩
 | slice t =>
  obtain⟨l,hT,FF⟩:=km.X9 (τ:=t) (xs:=y) hO
  have hn:lk id=none:=aW (id, .aB t y) (by simp[ga])
  obtain⟨Oy,DT⟩:=h.NB hn
  have hI:=h.Ny id t y _ fp hn Oy DT hR hT dC hF
  have cu:iJ (ga id ⟨.slice t,y⟩) lk=λ i=>if i=id then some (.aB t y) else lk i:=by
   rw[<-X1 (λ i=>if i=id then some (av.aB t y) else lk i),V5 id _ [] lk rfl];rfl
  rw[cu]
  refine⟨_,hI,⟨rfl,λ i o ho=>?_⟩,⟨by simp[df],l,by simp,FF⟩,λ fq hq wA b hb=>?_⟩
  .have hi:i≠id:=λ e=>by subst e;rw[hn] at ho;cases ho
   simp[hi,ho]
  .obtain⟨q1,q2,q3,q4,q5⟩:=hq b hb
   refine⟨q1,q2,q3,λ i o cm e=>?_,λ j τ xs hj=>?_⟩
   .by_cases hi:i=id
    .simp only[a5T hi] at e
     cases e
    .simp only[a5J hi] at cm e
     exact q4 i o cm e
   .by_cases hi:j=id
    .simp only[a5T hi];exact wA b hb
    .simp only[a5J hi] at hj ⊢
     exact q5 j τ xs hj
 | st s=>cases hu
 | ptr=>exact xe ⟨rfl,rfl⟩
 | int k=>exact xe ⟨rfl,rfl⟩
 | bool=>exact xe ⟨rfl,rfl⟩
 | str=>exact xe ⟨rfl,rfl⟩
theorem KD{id:Nat}{u:TV}{p:Nat×av}(h:p∈ga id u):p.1=id:=by
 obtain⟨τ,y⟩:=u
 cases τ<;>simp[ga] at h
 rw[h]
theorem No{r:List (Nat×av)}{i:Nat}(h:∀ p∈r,p.1≠i):ae r i=none:=by
 induction r with
 | nil=>rfl
 | cons p r ih =>
  obtain⟨k,o⟩:=p
  rw[dE,a5J (λ e=>h (k,o) (by simp) e.symm)]
  exact ih λ q hq=>h q (by simp[hq])
theorem bn.xF:∀ {us:List TV} {cs:List Value} {fp:List Nat} {id:Nat} {G:Gh} {lk:Nat->Option av},bn c G sl n lk a w->(∀ u∈us,u.τ.agg=false)->dy w (us.map TV.aK) cs fp->fp.Nodup->Fr c G lk w fp ->
  (∀ p∈bS id us,lk p.1=none)->((bS id us).map (·.1)).Nodup->(∀ j,id<=j->c.R j=none) ->
  ∃ G' lk',(∀ i,lk' i=iJ (bS id us) lk i)/\bn c G' sl n lk' a w/\Ext G lk G' lk'/\aN (C1 c G' lk' w) (ca id us) cs/\∀ fq,Fr c G lk w fq->(∀ b∈fq,b∉fp)->Fr c G' lk' w fq
 | [],cs,fp,id,G,lk,h,_,hO,_,_,_,_,_=>by
  obtain⟨rfl,rfl⟩:=hO
  exact⟨G,lk,λ _=>rfl,h,Ext.refl _ _,trivial,λ fq hq _=>hq⟩
 | u::us,cs,fp,id,G,lk,h,hu,hO,dC,hF,aW,rG,hR=>by
  obtain⟨v,r,f1,f2,rfl,rfl,h1,h2⟩:=hO
  rw[a5Y] at dC
  obtain⟨X5,X6,X7⟩:=dC
  simp only[bS,a7l] at rG
  rw[a5Y] at rG
  obtain⟨d1,d2,d3⟩:=rG
  obtain⟨G1,i1,e1,c1,TF⟩:=h.WL (id:=id) (hu u (by simp)) h1 X5 (λ b hb=>hF b (by simp[hb])) (λ p hp=>aW p (by simp[bS,hp])) (hR id (a6b _))
  have dU:∀ p∈bS (id+1) us,ae (ga id u) p.1=none:=λ p hp=>No λ q hq e=>d3 q.1 (a5K.2 ⟨q,hq,rfl⟩) p.1 (a5K.2 ⟨p,hp,rfl⟩) e
  obtain⟨G2,lk2,k1,k2,k3,k4,k5⟩:=bn.xF (us:=us) (cs:=r) (fp:=f2) (id:=id+1) i1 (λ u hu'=>hu u (by simp[hu'])) h2 X6
   (TF f2 (λ b hb=>hF b (by simp[hb])) (λ b hb cw=>X7 b cw b hb rfl)) (λ p hp=>by unfold iJ;rw[dU p hp];exact aW p (by simp[bS,hp])) d2 (λ j hj=>hR j (by omega))
  refine⟨G2,lk2,λ i=>?_,k2,e1.trans k3,⟨c1.ext k3,k4⟩,λ fq hq wA=>k5 fq (TF fq hq λ b hb cw=>wA b hb (by simp[cw])) λ b hb cw=>wA b hb (by simp[cw])⟩
  rw[k1 i]
  simp only[bS]
  unfold iJ
  have a3S:∀ (r r':List (Nat×av)) (j:Nat),ae (r++r') j=match ae r j with|some o=>some o|none=>ae r' j:=by
   intro r r' j
   induction r with
   | nil=>rfl
   | cons p r ih =>
    obtain⟨k,o⟩:=p
    rw[a7g,dE,dE]
    by_cases hj:j=k
    .simp[hj]
    .simpa [hj] using ih
  rw[a3S]
  cases hx:ae (bS (id+1) us) i with
  | none=>simp only[];cases ae (ga id u) i<;>rfl
  | some o =>
   simp only[]
   have hm:=gC hx
   rw[dU _ hm]
theorem L4(s:aR)(y:s.den):∀ u∈s.cells y,u.τ.agg=false:=λ u hu=>by
 have:=aR.qk s y u hu
 obtain⟨aZ,z'⟩:=u
 cases aZ with
 | st s'=>simp[TV.aK,Ty.aK,aR.cr,D.leaf] at this
 | _=>rfl
theorem TR.ext{G':Gh}{lk':Nat->Option av}(e:Ext G lk G' lk'){v:AV}{x:Value}(h:TR c G lk w v x):TR c G' lk' w v x:=by
 cases v with
 | any=>trivial
 | aS v=>exact eI.mono (G:=G) (G':=G') h (λ b hb=>by rw[e.S];exact hb) (λ _ _=>rfl)
 | aB i=>exact C1.ext (c:=c) (w:=w) (v := .aB i) e h
 | agg cs =>
  obtain⟨l,h1,h2⟩:=h
  exact⟨l,h1,h2.imp λ u y _ hy=>hy.ext e⟩
 | _=>exact h.elim
theorem TR.hJ{v:AV}{x:Value}(h:TR c G lk w v x):VR c G lk w v x:=by
 cases v with
 | any=>trivial
 | aS v=>exact h
 | aB i=>exact h
 | agg cs=>exact h
 | _=>exact h.elim
theorem C1.a4Q{id:Nat}{u:TV}{x:Value}(h:C1 c G lk w (mj id u) x)(hu:u.τ.agg=false):TR c G lk w (mj id u) x:=by
 obtain⟨τ,y⟩:=u
 cases τ with
 | slice t=>exact h
 | mv t=>exact h
 | ptr=>exact h.2
 | st s=>cases hu
 | int k=>exact h.2
 | bool=>exact h.2
 | str=>exact h.2
theorem bn.PI{v:TV}{x:Value}{fp:List Nat}{id:Nat}{G:Gh}{lk:Nat->Option av}(h:bn c G sl n lk a w)(hO:AT w v x fp)(dC:fp.Nodup)(hF:Fr c G lk w fp)
  (aW:∀ p∈bS id v.cells,lk p.1=none) (rG:((bS id v.cells).map (·.1)).Nodup) (hR:∀ j,id<=j->c.R j=none) :
  ∃ G' lk',(∀ i,lk' i=iJ (bS id v.cells) lk i)/\bn c G' sl n lk' a w/\Ext G lk G' lk'/\TR c G' lk' w (kk id v) x/\∀ fq,Fr c G lk w fq->(∀ b∈fq,b∉fp)->Fr c G' lk' w fq:=by
 have one:v.τ.agg=false->v.cells=[v]->kk id v=mj id v->Ow w v.aK [x] fp->∃ G' lk',(∀ i,lk' i=iJ (bS id v.cells) lk i)/\bn c G' sl n lk' a w/\Ext G lk G' lk'/\TR c G' lk' w (kk id v) x/\∀ fq,Fr c G lk w fq->(∀ b∈fq,b∉fp)->Fr c G' lk' w fq:=by
  intro hv hc hov hO
  rw[hc] at aW rG
  obtain⟨G',lk',k1,k2,k3,k4,k5⟩:=h.xF (us:=[v]) (cs:=[x]) (fp:=fp) (by simpa using hv) ⟨x,[],fp,[],rfl,by simp,hO,rfl,rfl⟩ dC hF aW rG hR
  rw[hc,hov]
  exact⟨G',lk',k1,k2,k3,C1.a4Q k4.1 hv,k5⟩
 obtain⟨τ,y⟩:=v
 cases τ with
 | st s =>
  obtain⟨cs,rfl,hO⟩:=hO
  rw[aR.cr] at hO
  obtain⟨G',lk',k1,k2,k3,k4,k5⟩:=h.xF (us:=s.cells y) (cs:=cs) (fp:=fp) (L4 s y) hO dC hF aW rG hR
  exact⟨G',lk',k1,k2,k3,⟨cs,rfl,k4⟩,k5⟩
 | slice t=>exact one rfl rfl rfl hO
 | mv t=>exact one rfl rfl rfl hO
 | ptr=>exact one rfl rfl rfl hO
 | int k=>exact one rfl rfl rfl hO
 | bool=>exact one rfl rfl rfl hO
 | str=>exact one rfl rfl rfl hO
theorem V4{r r':List (Nat×av)}(hd:∀ p∈r',ae r p.1=none)(lk:Nat->Option av)(i:Nat):iJ r' (iJ r lk) i=iJ (r++r') lk i:=by
 rw[KB]
 unfold iJ
 cases hx:ae r' i with
 | none=>rfl
 | some o =>
  have:=hd _ (gC hx)
  simp only[] at this ⊢
  rw[this]
theorem bn.Gp:∀ {vs:List TV} {xs:List Value} {fp:List Nat} {id:Nat} {G:Gh} {lk:Nat->Option av},bn c G sl n lk a w->Gl w vs xs fp->fp.Nodup->Fr c G lk w fp ->
  (∀ p∈bm id vs,lk p.1=none)->((bm id vs).map (·.1)).Nodup->(∀ j,id<=j->c.R j=none) ->
  ∃ G' lk',(∀ i,lk' i=iJ (bm id vs) lk i)/\bn c G' sl n lk' a w/\Ext G lk G' lk'/\aN (TR c G' lk' w) (HW id vs) xs/\∀ fq,Fr c G lk w fq->(∀ b∈fq,b∉fp)->Fr c G' lk' w fq
 | [],[],fp,id,G,lk,h,_,_,_,_,_,_=>⟨G,lk,λ _=>rfl,h,Ext.refl _ _,trivial,λ fq hq _=>hq⟩
 | v::vs,x::xs,fp,id,G,lk,h,hO,dC,hF,aW,rG,hR=>by
  obtain⟨f1,f2,rfl,h1,h2⟩:=hO
  rw[a5Y] at dC
  obtain⟨X5,X6,X7⟩:=dC
  simp only[bm,a7l] at rG
  rw[a5Y] at rG
  obtain⟨d1,d2,d3⟩:=rG
  obtain⟨G1,FJ,l1,i1,e1,c1,TF⟩:=h.PI (id:=id) h1 X5 (λ b hb=>hF b (by simp[hb])) (λ p hp=>aW p (by simp[bm,hp])) d1 hR
  have dU:∀ p∈bm (id+20) vs,ae (bS id v.cells) p.1=none:=λ p hp=>No λ q hq e=>d3 q.1 (a5K.2 ⟨q,hq,rfl⟩) p.1 (a5K.2 ⟨p,hp,rfl⟩) e
  obtain⟨G2,lk2,k1,k2,k3,k4,k5⟩:=bn.Gp (vs:=vs) (xs:=xs) (fp:=f2) (id:=id+20) i1 h2 X6
   (TF f2 (λ b hb=>hF b (by simp[hb])) (λ b hb cw=>X7 b cw b hb rfl)) (λ p hp=>by rw[l1 p.1];unfold iJ;rw[dU p hp];exact aW p (by simp[bm,hp])) d2 (λ j hj=>hR j (by omega))
  refine⟨G2,lk2,λ i=>?_,k2,e1.trans k3,⟨c1.ext k3,k4⟩,λ fq hq wA=>k5 fq (TF fq hq λ b hb cw=>wA b hb (by simp[cw])) λ b hb cw=>wA b hb (by simp[cw])⟩
  rw[k1 i,show FJ=iJ (bS id v.cells) lk from funext l1]
  exact V4 dU lk i
 | [],_::_,_,_,_,_,_,hO,_,_,_,_,_=>hO.elim
 | _::_,[],_,_,_,_,_,hO,_,_,_,_,_=>hO.elim
theorem ql(r r':List (Nat×av))(i:Nat):ae (r++r') i=iJ r (ae r') i:=by
 unfold iJ
 induction r with
 | nil=>rfl
 | cons p r ih =>
  obtain⟨k,o⟩:=p
  rw[a7g,dE,dE]
  by_cases hj:i=k
  .simp[hj]
  .simpa [hj] using ih
theorem FZ{id:Nat}{res:List TV}{x:Value}{fp:List Nat}(h:EN w res x fp):∃ xs,Gl w res xs fp/\∀ (G:Gh) (lk:Nat->Option av),aN (TR c G lk w) (HW id res) xs->VR c G lk w (lV id res) x:=by
 match res,h with
 | [v],h=>exact⟨[x],⟨fp,[],by simp,h,rfl⟩,λ G lk ha=>ha.1.hJ⟩
 | [],h =>
  obtain⟨l,h1,h2⟩:=h
  exact⟨l,h2,λ G lk ha=>⟨l,h1,ha⟩⟩
 | v::u::r,h =>
  obtain⟨l,h1,h2⟩:=h
  exact⟨l,h2,λ G lk ha=>⟨l,h1,ha⟩⟩
end
section
variable {c:Ctx} {G:Gh} {s:af} {a:Act} {w w':World}
theorem dn:∀ {l:List Nat},nodupB l=true->l.Nodup
 | [],_=>a6T
 | a::r,h=>by
  simp only[nodupB] at h
  split at h
  .cases h
  .rename_i hc
   exact List.nodup_cons.2 ⟨by simpa using hc,dn h⟩
theorem NK(hE:bJ c.P c.E)(h:Inv c G s a w){o:Oper}{f:FuncId}{Ts:List TypeId}{vs:List AV}{xs:List Value}{Z9:List Arg}{pre:Vc}{res:List TV}{d b:Nat}{Q:Exit->Act->World->Prop}
  (has:nQ c.E s.ae Ts vs=some Z9) (np:aN (VR c G s.ae w) vs xs) (hc:c.E.HI f Z9=some (pre,res)) (M4:pre.ok) (hd:o.dst=some d)
  (tL:∀ p∈bm b res,s.ae p.1=none) (rG:((bm b res).map (·.1)).Nodup) (hR:100<=b)
  (cS:oC c.P f->(execOp a.eval o).run c.P w = .ok (.enter f xs.toArray) w) :
  o.wp c.P a w (λ a' w'=>∃ G',Inv c G' { aw:=s.aw.set d (lV b res),aH:=bm b res++s.aH } a' w') Q:=by
 obtain⟨tK,pM⟩:=hE.HI f Z9 pre res hc M4
 unfold Oper.wp
 rw[cS tK]
 simp only[Oper.upon]
 refine (pM w (SX G s.ae) xs [] ?_ (.NF (jw hE h (λ _ _ h=>h) (λ _ h => .inl h) (λ τ v x y h1 h2=>y6 h.aT h.aH (λ _ _ h=>h) h1 h2) has np)) (.inl rfl) a6T (by simp)).mono ?_
 .exact h.Vq
 .rintro e w' ⟨x,fp,rfl,hk,hO,dC,uu⟩
  have hk:bX (λ _=>False) w w':=⟨hk.os,hk.tape,hk.output,hk.size,λ b hb _=>hk.block b hb (by simp)⟩
  have uu:∀ b∈fp,w.heap.size<=b/\b<w'.heap.size:=λ b hb=>(uu b hb).resolve_left (by simp)
  have hI:=bn.grow h hk (S':=G.S) (λ _ _=>a7N) (λ b hb=>a5Q (h.dX b hb) hk.size)
  obtain⟨ys,xo,M9⟩:=FZ (c:=c) (id:=b) hO
  have hF:Fr c ⟨G.S,G.η,G.φ⟩ s.ae w' fp:=λ b hb=>by
   obtain⟨h1,h2⟩:=uu b hb
   have:=h.aM.size
   refine⟨.inl (by omega),λ hs=>?_,h2,λ i o' hi vb=>?_,λ j τ zs hj pL=>?_⟩
   .have:=h.dX b hs;omega
   .have:=(h.place i o' b hi vb).2.2;omega
   .have:=(h.aT.pl j τ zs b hj pL).2.2.1;omega
  obtain⟨G',lk',k1,k2,k3,k4,_⟩:=hI.Gp (id:=b) xo dC hF tL rG (λ j hj=>by
   cases hr:c.R j with
   | none=>rfl
   | some v=>have:=h.ka j v hr;omega)
  refine⟨G',?_⟩
  have cu:af.ae { aw:=s.aw.set d (lV b res),aH:=bm b res++s.aH }=lk':=by
   funext i
   rw[k1 i]
   exact ql _ _ i
  unfold Inv
  rw[cu,hd,show af.sl { aw:=s.aw.set d (lV b res),aH:=bm b res++s.aH }=lL s.aw.length s.sl (some d) (lV b res) from rv s.aw d _ _,
   show ({ aw:=s.aw.set d (lV b res),aH:=bm b res++s.aH }:af).aw.length=s.aw.length from by simp]
  exact bn.put k2 (M9 G' lk' k4)
end
end Go.Proofs.YtnehkikdlnmebaaGreatDoor

namespace Go.Proofs.YtnehkikdlnmebaaGreatDoor
theorem fU{α:Type}:∀ {l:List (Nat×α)} {id:Nat} {o:α},ae l id=some o->(id,o)∈l
 | (k,p)::r,id,o,h=>by
  simp only[ae] at h
  split at h
  .rename_i hk
   have hk:=a5F hk
   simp only[a5E] at h
   subst hk h
   simp
  .exact a7u _ (fU h)
theorem uz{α:Type}:∀ {l:List (Nat×α)} {id:Nat} {o:α},(l.map (·.1)).Nodup->(id,o)∈l->ae l id=some o
 | (k,p)::r,id,o,hd,h=>by
  simp only[a6n,a6m] at hd
  simp only[ae]
  rcases a5P.1 h with e|h
  .simp only[a5H] at e
   obtain⟨rfl,rfl⟩:=e
   simp
  .split
   .rename_i hk
    have hk:=a5F hk
    subst hk
    exact absurd (a5K.2 ⟨_,h,rfl⟩) hd.1
   .exact uz hd.2 h
section
variable {c:Ctx} {G:Gh} {sl:Nat->AV} {n:Nat} {lk:Nat->Option av} {a:Act} {w w':World}
abbrev TE:=Value×List Nat×av
def CO(A:List (Nat×TE))(G:Gh)(i:Nat):Value:=match ae A i with
 | some e=>e.1
 | none=>G.η i
def xg(A:List (Nat×TE))(G:Gh)(i:Nat):List Nat:=match ae A i with
 | some e=>e.2.1
 | none=>G.φ i
def S6(A:List (Nat×TE))(lk:Nat->Option av)(i:Nat):Option av:=match ae A i with
 | some e=>some e.2.2
 | none=>lk i
structure WI(G:Gh)(lk:Nat->Option av)(w':World)(id:Nat)(e:TE):Prop where
 ex:∃ τ xs cX v l l',lk id=some (.aB τ xs)/\e.2.2 = .aB τ cX/\G.η id = .tuple (v::l).toArray/\e.1 = .tuple (v::l').toArray/\km w' e.1 τ cX e.2.1/\e.2.1.Nodup
theorem D6.ofList{A:List (Nat×TE)}(hA:∀ p∈A,WI G lk w' p.1 p.2)(TY:∀ p∈A,∀ b∈p.2.2.1,(∃ q∈A,b∈G.φ q.1)\/uK c G lk w' b)(Qb:∀ p∈A,∀ q∈A,∀ b∈p.2.2.1,b∈q.2.2.1->p.1=q.1)(dC:(A.map (·.1)).Nodup)
  (a2c:∀ b,b<w.heap.size->(∀ p∈A,b∉G.φ p.1)->w'.heap[b]?=w.heap[b]?) (hos:w'.os=w.os) (T8:w'.tape=w.tape) (Pd:w'.output=w.output) (B5:w.heap.size<=w'.heap.size) :
  D6 c G lk (S6 A lk) w w' (CO A G) (xg A G) (λ i=>∃ e,ae A i=some e) where
 same id hi:=by
  have:ae A id=none:=by
   cases hx:ae A id with
   | none=>rfl
   | some e=>exact absurd ⟨e,hx⟩ hi
  simp[S6,CO,xg,this]
 aB id:=by
  rintro⟨e,he⟩
  obtain⟨τ,xs,cX,v,l,l',h1,h2,h3,h4,h5,h6⟩:=(hA _ (fU he)).ex
  refine⟨τ,xs,cX,v,l,l',h1,?_,h3,?_,?_,?_⟩
  .simp only[S6,he];rw[<-h2]
  .simp only[CO,he];exact h4
  .simp only[CO,xg,he];exact h5
  .simp only[xg,he];exact h6
 a0z id b:=by
  rintro⟨e,he⟩ hb
  simp only[xg,he] at hb
  rcases TY _ (fU he) b hb with ⟨q,hq,hbq⟩|Qj
  .exact .inl ⟨q.1,⟨q.2,uz dC hq⟩,hbq⟩
  .exact .inr Qj
 apart id dD b:=by
  rintro⟨e,he⟩ ⟨e',yg⟩ hb cw
  simp only[xg,he] at hb
  simp only[xg,yg] at cw
  exact Qb _ (fU he) _ (fU yg) b hb cw
 heap b hb hn:=a2c b hb λ p hp=>hn p.1 ⟨p.2,uz dC hp⟩
 os:=hos
 tape:=T8
 output:=Pd
 size:=B5
def uL(G:Gh)(lk:Nat->Option av)(ids:List Nat)(b:Nat):Prop :=
 ∃ id∈ids,(∃ τ xs,lk id=some (.aB τ xs)/\b∈G.φ id)\/∃ e τ xs,lk id=some (.row e τ xs)/\dS (G.η id)=some b
theorem uL.mono{ids B7:List Nat}{b:Nat}(h:uL G lk ids b)(hs:∀ i∈ids,i∈B7):uL G lk B7 b:=by
 obtain⟨id,hi,h⟩:=h
 exact⟨id,hs id hi,h⟩
theorem bn.jX(h:bn c G sl n lk a w){i j:List Nat}{b:Nat}(hi:uL G lk i b)(hj:uL G lk j b)(hd:∀ x∈i,∀ y∈j,x≠y):False:=by
 obtain⟨x,hx,h1⟩:=hi
 obtain⟨y,hy,h2⟩:=hj
 rcases h1 with ⟨τ,xs,k1,k2⟩|⟨e,τ,xs,k1,k2⟩<;>rcases h2 with ⟨aZ,cX,m1,m2⟩|⟨e',aZ,cX,m1,m2⟩
 .exact hd x hx y hy (h.aT.ap x y τ aZ xs cX b k1 m1 k2 m2)
 .exact (h.aT.pl x τ xs b k1 k2).2.2.2 y _ m1 m2
 .exact (h.aT.pl y aZ cX b m1 m2).2.2.2 x _ k1 k2
 .exact hd x hx y hy (h.apart x y _ _ b k1 m1 k2 m2)
theorem tv{τ:Ty}(h:τ.xe=true)(y:τ.den):(τ.aK y).light=true:=by
 cases τ<;>first|rfl|cases h
theorem Nl:∀ {l:List D},(∀ d∈l,d.light=true)->D.C9 l=true
 | [],_=>rfl
 | d::ds,h=>by
  simp only[D.C9,a5I]
  exact⟨h d (by simp),Nl λ e he=>h e (a7u _ he)⟩
theorem QL{τ:Ty}(h:τ.plain=true)(y:τ.den):(τ.aK y).light=true:=by
 cases τ with
 | st s =>
  show (s.aK y).light=true
  rw[aR.cr]
  refine Nl λ d hd=>?_
  obtain⟨u,hu,rfl⟩:=a5K.1 hd
  have ht:u.τ∈s.uV:=by rw[<-aR.uS s y];exact a5K.2 ⟨u,hu,rfl⟩
  exact tv (a6i.1 h _ ht) u.x
 | slice t=>cases h
 | mv t=>cases h
 | ptr=>rfl
 | int k=>rfl
 | bool=>rfl
 | str=>rfl
theorem xf(h:bn c G sl n lk a w){τ:Ty}{v:AV}{x:Value}{y:τ.den}{ids:List Nat}(ht:fu lk τ v=some (y,ids))(hv:C1 c G lk w v x):∃ fp,Ow w (τ.aK y) [x] fp/\fp.Nodup/\∀ b∈fp,uL G lk ids b:=by
 cases v with
 | aS u =>
  simp only[fu] at ht
  split at ht
  .rename_i y' hs hy
   simp only[a5E,a5H] at ht
   obtain⟨rfl,rfl⟩:=ht
   have e:=TV.bd hy
   subst e
   exact⟨[],Ow.e9 _ (tv hs _) hv.2,a6T,by simp⟩
  .cases ht
 | nil =>
  cases τ with
  | slice t =>
   simp only[fu,a5E,a5H] at ht
   obtain⟨rfl,rfl⟩:=ht
   exact⟨[],⟨none,0,by rw[show x=_ from hv];rfl,by simp,by simp[maxLen],by simp, .inl ⟨rfl,⟨rfl,rfl⟩,rfl⟩⟩,a6T,by simp⟩
  | _=>cases ht
 | aB id =>
  simp only[fu] at ht
  split at ht
  .rename_i aZ xs hl
   split at ht
   .rename_i y' hy
    simp only[a5E,a5H] at ht
    obtain⟨rfl,rfl⟩:=ht
    have e:=TV.bd hy
    cases e
    obtain⟨_,l,h2,_⟩:=hv
    exact⟨G.φ id,Ow.a2q (h.aT.tr id aZ xs hl) h2,h.aT.nd id aZ xs hl,λ b hb=>⟨id,by simp, .inl ⟨aZ,xs,hl,hb⟩⟩⟩
   .cases ht
  .cases ht
 | row id =>
  simp only[fu] at ht
  split at ht
  .rename_i e aZ xs hl
   split at ht
   .rename_i y' hp hy
    simp only[a5E,a5H] at ht
    obtain⟨rfl,rfl⟩:=ht
    have e1:=TV.bd hy
    cases e1
    obtain⟨hx,_,_⟩:=hv
    obtain⟨l,h1,h2,h3⟩:=h.aH id _ hl
    have ZG:∀ d∈xs.map aZ.aK,d.light=true:=λ d hd=>by
     obtain⟨z,_,rfl⟩:=a5K.1 hd
     exact QL hp z
    rcases h1.2 with ⟨Qr,hn⟩|⟨g,cap,cur,Qr,_,hh,K8,TW,mD,XO⟩
    .have np:xs=[]:=a6I hn
     subst np
     exact⟨[],⟨none,0,by rw[hx,Qr];rfl,by simp,by simp[maxLen],by simp, .inl ⟨rfl,⟨rfl,rfl⟩,rfl⟩⟩,a6T,by simp⟩
    .refine⟨[g],⟨some ⟨g,0,none⟩,cap,by rw[hx,Qr];simp,by simpa using K8,TW,by simpa using h3, .inr ⟨g,[],cur.toList,e,rfl,rfl,by simpa using hh,?_⟩⟩,by simp,λ b hb=>?_⟩
     .have hr:=bQ.e9 (w:=w) (S:=G.S) (xs.map aZ.aK) (l:=l) (m:=cur.toList.drop (xs.length * aZ.size)) ZG h2
      rw[<-XO,a7b] at hr
      exact⟨by rw[a6y];exact mD,hr⟩
     .simp only[a6t] at hb
      subst hb
      exact⟨id,by simp, .inr ⟨e,aZ,xs,hl,by rw[Qr];rfl⟩⟩
   .cases ht
  .cases ht
 | _=>cases ht
theorem dV{l1 l2:List Nat}(h1:l1.Nodup)(h2:l2.Nodup)(h3:∀ x∈l1,x∉l2):(l1++l2).Nodup:=by
 rw[a5Y]
 exact⟨h1,h2,λ x hx y hy e=>h3 x hx (e ▸ hy)⟩
theorem Ii(h:bn c G sl n lk a w):∀ {cs:List AV} {ts:List Ty} {us:List TV} {ids:List Nat} {l:List Value},Ih lk cs ts=some (us,ids)->aN (C1 c G lk w) cs l->ids.Nodup ->
  ∃ fp,dy w (us.map TV.aK) l fp/\fp.Nodup/\(∀ b∈fp,uL G lk ids b)/\us.map TV.τ=ts
 | [],[],us,ids,l,ht,hl,_=>by
  simp only[Ih,a5E,a5H] at ht
  obtain⟨rfl,rfl⟩:=ht
  match l,hl with
  | [],_=>exact⟨[],⟨rfl,rfl⟩,a6T,by simp,rfl⟩
 | cc::cs,t::ts,us,ids,l,ht,hl,dC=>by
  simp only[Ih] at ht
  split at ht
  .rename_i x i hx
   split at ht
   .rename_i r j hr
    simp only[a5E,a5H] at ht
    obtain⟨rfl,rfl⟩:=ht
    match l,hl with
    | v::l,hl =>
     rw[a5Y] at dC
     obtain⟨n1,n2,n3⟩:=dC
     obtain⟨f1,a1,a2,a3⟩:=xf h hx hl.1
     obtain⟨f2,b1,b2,b3,b4⟩:=Ii h hr hl.2 n2
     refine⟨f1++f2,⟨v,l,f1,f2,rfl,rfl,a1,b1⟩,dV a2 b2 λ b hb cw=>h.jX (a3 b hb) (b3 b cw) (λ x hx y hy=>n3 x hx y hy),λ b hb=>?_,by simp[b4]⟩
     rcases a5G.1 hb with hb|hb
     .exact (a3 b hb).mono λ k hk=>by simp[hk]
     .exact (b3 b hb).mono λ k hk=>by simp[hk]
   .cases ht
  .cases ht
 | [],_::_,_,_,_,ht,_,_=>by cases ht
 | _::_,[],_,_,_,ht,_,_=>by cases ht
theorem tC(h:bn c G sl n lk a w){τ:Ty}{v:AV}{x:Value}{y:τ.den}{ids:List Nat}(ht:Ga lk τ v=some (y,ids))(hv:VR c G lk w v x)(dC:ids.Nodup):∃ fp,AT w ⟨τ,y⟩ x fp/\fp.Nodup/\∀ b∈fp,uL G lk ids b:=by
 have one:(∀ cs,v ≠ .agg cs)->fu lk τ v=some (y,ids)->∃ fp,AT w ⟨τ,y⟩ x fp/\fp.Nodup/\∀ b∈fp,uL G lk ids b:=by
  intro hna ht
  have cp:∀ s,τ ≠ .st s:=λ s e=>by
   subst e
   cases v with
   | aS u=>simp[fu,Ty.xe] at ht
   | nil=>simp[fu] at ht
   | aB id =>
    simp only[fu] at ht
    split at ht
    .split at ht
     .rename_i hy
      have e:=TV.bd hy
      cases e
     .cases ht
    .cases ht
   | row id =>
    simp only[fu] at ht
    split at ht
    .split at ht
     .rename_i hy
      have e:=TV.bd hy
      cases e
     .cases ht
    .cases ht
   | _=>cases ht
  have hc:C1 c G lk w v x:=by
   refine hv.Py ?_
   cases v with
   | aS u =>
    simp only[fu] at ht
    split at ht
    .rename_i hy
     have e:=TV.bd hy
     subst e
     cases τ<;>first|rfl|exact absurd rfl (cp _)
    .cases ht
   | nil=>rfl
   | aB id=>rfl
   | row id=>rfl
   | _=>cases ht
  obtain⟨fp,h1,h2,h3⟩:=xf h ht hc
  refine⟨fp,?_,h2,h3⟩
  cases τ with
  | st s=>exact absurd rfl (cp s)
  | _=>exact h1
 cases v with
 | agg cs =>
  cases τ with
  | st s =>
   simp only[Ga] at ht
   split at ht
   .rename_i us i mD
    split at ht
    .rename_i y' hy
     simp only[a5E,a5H] at ht
     obtain⟨rfl,rfl⟩:=ht
     obtain⟨l,rfl,hl⟩:=hv
     obtain⟨fp,h1,h2,h3,_⟩:=Ii h mD hl dC
     refine⟨fp,⟨l,rfl,?_⟩,h2,h3⟩
     rw[aR.cr,aR.oY hy]
     exact h1
    .cases ht
   .cases ht
  | _=>cases ht
 | _=>exact one (by intro cs;simp) ht
theorem dy.split:∀ (ds:List D) {l:List Value} {fp:List Nat} (i:Nat) (d:D),dy w ds l fp->ds[i]?=some d ->
  ∃ v f0 f1 f2,fp=f0++f1++f2/\l[i]?=some v/\Ow w d [v] f1/\∀ (w':World) (d':D) (v':Value) (ku:List Nat),(∀ b∈f0++f2,w'.heap[b]?=w.heap[b]?)->Ow w' d' [v'] ku->dy w' (ds.set i d') (l.set i v') (f0++ku++f2)
 | [],_,_,_,_,_,hi=>by simp at hi
 | e::ds,_,_,0,d,h,hi=>by
  obtain⟨v,r,f1,f2,rfl,rfl,h3,h4⟩:=h
  simp at hi
  subst hi
  exact⟨v,[],f1,f2,by simp,rfl,h3,λ w' d' v' ku hw hd=>⟨v',r,ku,f2,rfl,by simp,hd,dy.aM ds h4 λ b hb=>hw b (by simp[hb])⟩⟩
 | e::ds,_,_,i+1,d,h,hi=>by
  obtain⟨v,r,g1,g2,rfl,rfl,h3,h4⟩:=h
  obtain⟨u,f0,f1,f2,rfl,k1,k2,k3⟩:=dy.split ds i d h4 (by simpa using hi)
  refine⟨u,g1++f0,f1,f2,by simp,by simpa using k1,k2,λ w' d' v' ku hw hd=>?_⟩
  exact⟨v,r.set i v',g1,f0++ku++f2,rfl,by simp,Ow.aM e h3 λ b hb=>hw b (by simp[hb]),k3 w' d' v' ku (λ b hb=>hw b (by simp at hb ⊢;rcases hb with hb|hb<;>simp[hb])) hd⟩
theorem Ky(v:AV):v.de=v\/v.de = .any:=by unfold AV.de;split<;>simp
theorem Es(v:AV):v.de.Ib=false:=by
 unfold AV.de
 split
 .rfl
 .assumption
theorem KP:∀ cs:List AV,AV.pT (cs.map AV.de)=false
 | []=>rfl
 | v::r=>by simp only[a6n,AV.pT,Es];exact KP r
theorem C1.de{v:AV}{x:Value}(h:C1 c G lk w v x):C1 c G lk w v.de x:=by
 rcases Ky v with e|e
 .rw[e];exact h
 .rw[e];trivial
theorem EH(o:Option av):er o (o.map av.de):=by
 refine⟨λ h=>?_,λ e τ xs h=>⟨e,xs,by rw[h];rfl,a6b _⟩,λ h=>?_,λ h=>?_⟩
 .match o,h with
  | some (.box cs),_=>rfl
 .match o,h with
  | some (.aB τ xs),_=>rfl
 .match o,h with
  | some (.map m),_=>rfl
theorem wW{o:Option av}{τ:Ty}{xs:List τ.den}(h:o.map av.de=some (.aB τ xs)):o=some (.aB τ xs):=by
 match o,h with
 | some (.aB aZ cX),h=>exact h
 | some (.box _),h=>cases h
 | some (.row ..),h=>cases h
theorem bn.cD(h:bn c G sl n lk a w):bn c G (λ i=>(sl i).de) n (λ i=>(lk i).map av.de) a w:=by
 have h1:bn c G (λ i=>(sl i).de) n lk a w:=h.forget λ i=>Ky (sl i)
 exact {
  defers:=h1.defers,size:=h1.size,aM:=h1.aM,mO:=h1.mO,eF:=h1.eF,sX:=h1.sX,dX:=h1.dX
  aw:=λ i=>(h1.aw i).mono (λ j _=>⟨EH _,rfl⟩) (λ _ h=>h) (λ _ _=>rfl)
  aH:=λ i o ho=>by
   rw[a6r] at ho
   obtain⟨o',cM,rfl⟩:=ho
   have hk:OR c G lk w i o'.de:=by
    have:=h1.aH i o' cM
    cases o' with
    | box cs =>
     obtain⟨b,l,t,k1,k2,k3⟩:=this
     exact⟨b,l,t,k1,k2,aN.eB _ (k3.imp λ u y _ hy=>hy.de)⟩
    | row e τ xs=>exact this
    | aB τ xs=>exact this
    | map m=>exact this
   exact hk.mono rfl (λ _ _=>rfl) (λ j _=>⟨EH _,rfl⟩) (λ _ h=>h) (λ _ _=>rfl)
  place:=λ i o b ho hb=>by
   rw[a6r] at ho
   obtain⟨o',cM,rfl⟩:=ho
   exact h1.place i o' b cM hb
  apart:=λ i j o o' b ho cM hb cw=>by
   rw[a6r] at ho cM
   obtain⟨p,hp,rfl⟩:=ho
   obtain⟨q,hq,rfl⟩:=cM
   exact h1.apart i j p q b hp hq hb cw
  aT:=h1.aT.sub (λ i τ xs k=>wW k) (λ i o k=>by
   rw[a6r] at k
   obtain⟨p,hp,_⟩:=k
   exact⟨p,hp⟩)
  root:=λ i v hr ht=>h1.root i v hr (by
   match hl:lk i,ht with
   | some (.aB ..),_=>rfl
   | some (.box _),ht=>simp[hl,av.de,df] at ht
   | some (.row ..),ht=>simp[hl,av.de,df] at ht
   | none,ht=>simp[hl,df] at ht)
  ka:=h1.ka
  dF:=λ i v hr ht=>h1.dF i v hr (by
   match hl:lk i,ht with
   | some (.box _),_=>rfl
   | some (.aB ..),ht=>simp[hl,av.de,gG] at ht
   | some (.row ..),ht=>simp[hl,av.de,gG] at ht
   | none,ht=>simp[hl,gG] at ht)
  fJ:=h1.fJ }
end
section
variable {c:Ctx} {G:Gh} {s:af} {a:Act} {w w':World}
theorem N0(s:af):s.cD.sl=λ i=>(s.sl i).de:=by
 funext i
 simp only[af.sl,af.cD,a6o,a7w]
 cases s.aw[i]?<;>rfl
theorem lT(s:af):s.cD.ae=λ i=>(s.ae i).map av.de:=by
 funext i;exact Da _ _ _
theorem Inv.cD(h:Inv c G s a w):Inv c G s.cD a w/\(∀ i,(s.cD.sl i).Ib=false)/\∀ id cs,s.cD.ae id=some (.box cs)->AV.pT cs=false:=by
 refine⟨?_,λ i=>by rw[N0];exact Es _,λ id cs aW=>?_⟩
 .unfold Inv
  rw[N0,lT,show s.cD.aw.length=s.aw.length from by simp[af.cD]]
  exact bn.cD h
 .rw[lT] at aW
  simp only[a6r] at aW
  obtain⟨o,_,ho⟩:=aW
  cases o with
  | box dJ=>cases ho;exact KP dJ
  | row e τ xs=>cases ho
  | aB τ xs=>cases ho
  | map m=>cases ho
theorem Inv.a0e(h:Inv c G s a w){A:List (Nat×TE)}(hA:∀ p∈A,WI G s.ae w' p.1 p.2)(TY:∀ p∈A,∀ b∈p.2.2.1,(∃ q∈A,b∈G.φ q.1)\/uK c G s.ae w' b)(Qb:∀ p∈A,∀ q∈A,∀ b∈p.2.2.1,b∈q.2.2.1->p.1=q.1)(dC:(A.map (·.1)).Nodup)
  {F:Nat->Prop} (hk:bX F w w') (hF:∀ b,F b->∃ p∈A,b∈G.φ p.1) {t:af} (ZP:t.aw=s.cD.aw) (A7:∀ i,t.ae i=S6 A s.cD.ae i) {d:Option Nat} {v:AV} {x:Value} (hv:∀ G' lk,VR c G' lk w' v x) :
  ∃ G',Inv c G' (t.put d v) (a.put d x) w':=by
 obtain⟨h1,h2,h3⟩:=h.cD
 have Xb:∀ p∈A,WI G s.cD.ae w' p.1 p.2:=λ p hp=>by
  obtain⟨τ,xs,cX,v,l,l',k1,k2⟩:=(hA p hp).ex
  exact⟨τ,xs,cX,v,l,l',by rw[lT];simp[k1,av.de],k2⟩
 have Zz:∀ p∈A,∀ b∈p.2.2.1,(∃ q∈A,b∈G.φ q.1)\/uK c G s.cD.ae w' b:=λ p hp b hb=>(TY p hp b hb).imp id λ ⟨q1,q2,q3,q4,q5⟩ =>
  ⟨q1,q2,q3,λ i o hi=>by
   rw[lT] at hi
   simp only[a6r] at hi
   obtain⟨o',cM,_⟩:=hi
   exact q4 i o' cM,λ j τ xs hj=>q5 j τ xs (by rw[lT] at hj;exact wW hj)⟩
 have T:=D6.ofList (c:=c) (w:=w) Xb Zz Qb dC (λ b hb hn=>hk.block b hb λ hf=>by
  obtain⟨p,hp,hbp⟩:=hF b hf
  exact hn p hp hbp) hk.os hk.tape hk.output hk.size
 have hI:=bn.fh h1 T h2 h3
 refine⟨_,Inv.put (G:=⟨G.S,CO A G,xg A G⟩) ?_ (hv _ _)⟩
 unfold Inv
 rw[show t.sl=s.cD.sl from by funext i;simp only[af.sl,ZP],show t.ae=S6 A s.cD.ae from funext A7,ZP]
 exact hI
theorem S7(id:Nat)(e:TE)(lk:Nat->Option av)(i:Nat):S6 [(id,e)] lk i=if i=id then some e.2.2 else lk i:=by
 unfold S6
 simp only[ae]
 by_cases hi:i=id
 .subst hi;simp
 .have:Nat.beq id i=false:=by
   cases hb:Nat.beq id i with
   | false=>rfl
   | true=>exact absurd (a5F hb).symm hi
  simp[this,hi]
theorem oX(s:af)(id:Nat)(τ:Ty)(xs:List τ.den)(i:Nat):(s.lC id τ xs).ae i=if i=id then some (.aB τ xs) else s.ae i:=by
 show ae ((id,_)::bK id s.aH) i=_
 rw[dE,eo]
 by_cases hi:i=id
 .simp[hi]
 .simp[hi];rfl
theorem a0b{lk:Nat->Option av}{k:Int}(h:ag k):VR c G lk w (.aS ⟨.int .i64,k⟩) (.int .i64 k):=by
 refine⟨rfl,?_⟩
 simp only[IntKind.min,IntKind.max,IntKind.signed,IntKind.bits,a7O]
 obtain⟨q1,q2⟩:=h
 constructor<;>omega
theorem xa{f0 f1 f2 ku:List Nat}(h:(f0++f1++f2).Nodup)(h1:ku.Nodup)(hs:∀ b∈ku,b∈f1\/(b∉f0/\b∉f2)):(f0++ku++f2).Nodup:=by
 rw[a5Y,a5Y] at h
 obtain⟨⟨a1,a2,a3⟩,a4,a5⟩:=h
 refine dV (dV a1 h1 λ x hx yl=>(hs x yl).elim (λ q=>a3 x hx x q rfl) λ q=>q.1 hx) a4 λ x hx yl=>?_
 rcases a5G.1 hx with hx|hx
 .exact a5 x (by simp[hx]) x yl rfl
 .exact (hs x hx).elim (λ q=>a5 x (by simp[q]) x yl rfl) λ q=>q.2 yl
theorem KJ{w:World}{τ Wy:Ty}{x:τ.den}{off:Nat}{u:TV}(hu:TV.part ⟨τ,x⟩ off Wy=some u)(cp:Wy.agg=false){ce:List Value}{fp:List Nat}(hO:Ow w (τ.aK x) ce fp) :
  ∃ v f0 f1 f2,fp=f0++f1++f2/\ce[off]?=some v/\Ow w u.aK [v] f1/\∀ (w':World) (u':TV) (y:τ.den) (v':Value) (ku:List Nat),oZ τ x off u'=some y->(∀ b∈f0++f2,w'.heap[b]?=w.heap[b]?)->Ow w' u'.aK [v'] ku->Ow w' (τ.aK y) (ce.set off v') (f0++ku++f2):=by
 cases τ with
 | st s =>
  have tJ:(s.cells x)[off]?=some u:=by
   unfold TV.part at hu
   split at hu
   .rename_i hb
    simp only[a5I] at hb
    have:=a6f hb.2
    have e:Ty.st s=Wy:=this
    subst e
    cases cp
   .split at hu
    .rename_i z hz
     split at hu
     .simp only[a5E] at hu
      subst hu
      exact hz
     .cases hu
    .cases hu
  rw[show Ty.aK (.st s) x=s.aK x from rfl,aR.cr] at hO
  obtain⟨v,f0,f1,f2,h1,h2,h3,h4⟩:=dy.split _ off u.aK hO (by rw[a7w,tJ];rfl)
  refine⟨v,f0,f1,f2,h1,h2,h3,λ w' u' y v' ku hp hw xo=>?_⟩
  simp only[oZ,tJ] at hp
  split at hp
  .have hy:=aR.oY hp
   rw[show Ty.aK (.st s) y=s.aK y from rfl,aR.cr,hy,a8E]
   exact h4 w' u'.aK v' ku hw xo
  .cases hp
 | slice t =>
  have qE:off=0/\u=⟨.slice t,x⟩:=by
   unfold TV.part at hu
   split at hu
   .rename_i hb
    simp only[a5I] at hb
    simp only[a5E] at hu
    exact⟨a5F hb.1,hu.symm⟩
   .split at hu
    .rename_i z hz
     cases off with
     | zero=>simp[TV.cells] at hz;subst hz;split at hu<;>simp_all
     | succ k=>simp[TV.cells] at hz
    .cases hu
  obtain⟨rfl,rfl⟩:=qE
  have hl:=Ow.length _ hO
  match ce,hl with
  | [v],_ =>
   refine⟨v,[],fp,[],by simp,rfl,hO,λ w' u' y v' ku hp _ xo=>?_⟩
   simp only[oZ] at hp
   have e:=TV.bd hp
   subst e
   rw[a6C,a7a]
   exact xo
 | mv t =>
  have qE:off=0/\u=⟨.mv t,x⟩:=by
   unfold TV.part at hu
   split at hu
   .rename_i hb
    simp only[a5I] at hb
    simp only[a5E] at hu
    exact⟨a5F hb.1,hu.symm⟩
   .split at hu
    .rename_i z hz
     cases off with
     | zero=>simp[TV.cells] at hz;subst hz;split at hu<;>simp_all
     | succ k=>simp[TV.cells] at hz
    .cases hu
  obtain⟨rfl,rfl⟩:=qE
  have hl:=Ow.length _ hO
  rw[Ty.cK] at hl
  match ce,hl with
  | [v],_ =>
   refine⟨v,[],fp,[],by simp,rfl,hO,λ w' u' y v' ku hp _ xo=>?_⟩
   simp only[oZ] at hp
   have e:=TV.bd hp
   subst e
   rw[a6C,a7a]
   exact xo
 | ptr =>
  have qE:off=0/\u=⟨.ptr,x⟩:=by
   unfold TV.part at hu
   split at hu
   .rename_i hb
    simp only[a5I] at hb
    simp only[a5E] at hu
    exact⟨a5F hb.1,hu.symm⟩
   .split at hu
    .rename_i z hz
     cases off with
     | zero=>simp[TV.cells] at hz;subst hz;split at hu<;>simp_all
     | succ k=>simp[TV.cells] at hz
    .cases hu
  obtain⟨rfl,rfl⟩:=qE
  have hl:=Ow.length _ hO
  rw[Ty.cK] at hl
  match ce,hl with
  | [v],_ =>
   refine⟨v,[],fp,[],by simp,rfl,hO,λ w' u' y v' ku hp _ xo=>?_⟩
   simp only[oZ] at hp
   have e:=TV.bd hp
   subst e
   rw[a6C,a7a]
   exact xo
 | int k =>
  have qE:off=0/\u=⟨.int k,x⟩:=by
   unfold TV.part at hu
   split at hu
   .rename_i hb
    simp only[a5I] at hb
    simp only[a5E] at hu
    exact⟨a5F hb.1,hu.symm⟩
   .split at hu
    .rename_i z hz
     cases off with
     | zero=>simp[TV.cells] at hz;subst hz;split at hu<;>simp_all
     | succ k=>simp[TV.cells] at hz
    .cases hu
  obtain⟨rfl,rfl⟩:=qE
  have hl:=Ow.length _ hO
  match ce,hl with
  | [v],_ =>
   refine⟨v,[],fp,[],by simp,rfl,hO,λ w' u' y v' ku hp _ xo=>?_⟩
   simp only[oZ] at hp
   have e:=TV.bd hp
   subst e
   rw[a6C,a7a]
   exact xo
 | bool =>
  have qE:off=0/\u=⟨.bool,x⟩:=by
   unfold TV.part at hu
   split at hu
   .rename_i hb
    simp only[a5I] at hb
    simp only[a5E] at hu
    exact⟨a5F hb.1,hu.symm⟩
   .split at hu
    .rename_i z hz
     cases off with
     | zero=>simp[TV.cells] at hz;subst hz;split at hu<;>simp_all
     | succ k=>simp[TV.cells] at hz
    .cases hu
  obtain⟨rfl,rfl⟩:=qE
  have hl:=Ow.length _ hO
  match ce,hl with
  | [v],_ =>
   refine⟨v,[],fp,[],by simp,rfl,hO,λ w' u' y v' ku hp _ xo=>?_⟩
   simp only[oZ] at hp
   have e:=TV.bd hp
   subst e
   rw[a6C,a7a]
   exact xo
 | str =>
  have qE:off=0/\u=⟨.str,x⟩:=by
   unfold TV.part at hu
   split at hu
   .rename_i hb
    simp only[a5I] at hb
    simp only[a5E] at hu
    exact⟨a5F hb.1,hu.symm⟩
   .split at hu
    .rename_i z hz
     cases off with
     | zero=>simp[TV.cells] at hz;subst hz;split at hu<;>simp_all
     | succ k=>simp[TV.cells] at hz
    .cases hu
  obtain⟨rfl,rfl⟩:=qE
  have hl:=Ow.length _ hO
  match ce,hl with
  | [v],_ =>
   refine⟨v,[],fp,[],by simp,rfl,hO,λ w' u' y v' ku hp _ xo=>?_⟩
   simp only[oZ] at hp
   have e:=TV.bd hp
   subst e
   rw[a6C,a7a]
   exact xo
theorem SR(l:List Value)(o n k:Nat)(v:Value)(hk:k<n)(hl:o+n<=l.length):l.take o++((l.drop o).take n).set k v++l.drop (o+n)=l.set (o+k) v:=by
 conv=>rhs;rw[<-a7b o l]
 rw[a8n _ _ (by simp;omega),a6u]
 congr 1
 have e:o+k - (List.take o l).length=k:=by rw[a6R];omega
 rw[e]
 conv=>rhs;rw[<-a7b n (l.drop o)]
 rw[List.set_append_left _ _ (by rw[a6R,a6S];omega),a8b]
theorem UC{w:World}{η:Value}{τ Wy:Ty}{xs:List τ.den}{fp:List Nat}(hT:km w η τ xs fp)(dC:fp.Nodup){a0:Option Addr}{n cap:Nat}{l:List Value}(gQ:η = .tuple (.slice a0 n cap::l).toArray){i off:Nat}(hi:i<n){u:TV}
  (hu:TV.part ⟨τ,xs.getD i τ.zero⟩ off Wy=some u) (cp:Wy.agg=false) (qE:off<τ.size):n=xs.length /\
  ∃ v f1,l[i * τ.size+off]?=some v/\Ow w u.aK [v] f1/\f1.Nodup/\(∀ b∈f1,b∈fp)/\∀ (w':World) (u':TV) (y:τ.den) (v':Value) (ku:List Nat),oZ τ (xs.getD i τ.zero) off u'=some y->(∀ b∈fp,b∉f1->(a0=some ⟨b,0,none⟩->∃ t,w'.heap[b]?=some (.cells (l.set (i * τ.size+off) v').toArray t (0,0)))/\(a0≠some ⟨b,0,none⟩->w'.heap[b]?=w.heap[b]?))->Ow w' u'.aK [v'] ku->ku.Nodup->(∀ b∈ku,b∈f1\/b∉fp) ->
   ∃ TD,km w' (.tuple (.slice a0 n cap::l.set (i * τ.size+off) v').toArray) τ (xs.set i y) TD/\TD.Nodup/\∀ b∈TD,b∈fp\/b∈ku:=by
 obtain⟨v0,l0,a1,Rw,h1,h2,h3,h4,h5,h6⟩:=hT
 rw[gQ] at h1
 simp only[a7h] at h1
 have h1:(Value.slice a0 n cap::l)=v0::l0:=congrArg Array.toList h1
 simp only[a5L] at h1
 obtain⟨hq,vh⟩:=h1
 subst vh
 rw[h2] at hq
 simp only[a7B] at hq
 obtain⟨rfl,rfl,rfl⟩:=hq
 rcases h6 with ⟨rfl,_,_⟩|⟨b,f,t,rfl,rfl,k1,k0,k2⟩
 .simp at hi
 .have cz:∀ d∈xs.map τ.aK,d.size=τ.size:=by
   intro d hd
   obtain⟨z,_,rfl⟩:=a5K.1 hd
   exact Ty.cK τ z
  obtain⟨g0,g1,g2,rfl,hlen,m1,m2⟩:=bQ.split (xs.map τ.aK) i (τ.aK (xs.getD i τ.zero)) k2 cz (by simp[List.getD,hi])
  obtain⟨v,p0,p1,p2,rfl,q1,q2,q3⟩:=KJ hu cp m1
  have hvl:l[i * τ.size+off]?=some v:=by
   rw[a6Y,a5T qE,a7y] at q1
   exact q1
  rw[a6m] at dC
  obtain⟨hb,dC⟩:=dC
  have Pc:(p0++p1++p2).Nodup:=by
   rw[a5Y,a5Y] at dC
   exact dC.1.2.1
  have Ox:p1.Nodup:=by
   rw[a5Y,a5Y] at Pc
   exact Pc.1.2.1
  refine⟨rfl,v,p1,hvl,q2,Ox,λ b hb=>by simp[hb],λ w' u' y v' ku hp hw xo uy hs'=>?_⟩
  have dis:∀ c∈g0++(p0++p1++p2)++g2,c∉p1->w'.heap[c]?=w.heap[c]?:=λ c hc hn=>(hw c (a7u _ hc) hn).2 λ e=>by
   simp only[a5E,a7K,a5R] at e
   subst e
   exact hb hc
  have iX:∀ c,c∈p1->c∈p0++p1++p2:=λ c hc=>by simp[hc]
  rw[a5Y,a5Y] at dC
  obtain⟨⟨n1,n2,n3⟩,n4,n5⟩:=dC
  have h0:∀ c∈g0++g2,c∉p1:=λ c hc Jb=>by
   rcases a5G.1 hc with hc|hc
   .exact n3 c hc c (iX c Jb) rfl
   .exact n5 c (a5G.2 (.inr (iX c Jb))) c hc rfl
  have h00:∀ c∈p0++p2,c∉p1:=λ c hc Jb=>by
   rw[a5Y,a5Y] at Pc
   rcases a5G.1 hc with hc|hc
   .exact Pc.1.2.2 c hc c Jb rfl
   .exact Pc.2.2 c (by simp[Jb]) c hc rfl
  have hy:=q3 w' u' y v' ku hp (λ c hc=>dis c (by simp at hc ⊢;rcases hc with hc|hc<;>simp[hc]) (h00 c hc)) xo
  have jH:=m2 w' (τ.aK y) _ (p0++ku++p2) (λ c hc=>dis c (by simp at hc ⊢;rcases hc with hc|hc<;>simp[hc]) (h0 c hc)) (by simp only[a7V,a6R,a6S];omega) hy
  rw[SR l _ _ _ v' qE hlen,<-a8E] at jH
  obtain⟨t',T7⟩:=(hw b (by simp) λ hc=>hb (by simp[hc])).1 rfl
  refine⟨b::(g0++(p0++ku++p2)++g2),⟨_,_,_,cap,rfl,by simp,by simpa using h3,h4,by simpa using h5, .inr ⟨b,_,t',rfl,rfl,T7,by rw[List.length_set];exact k0,jH⟩⟩,?_,?_⟩
  .have Qj:∀ c∈ku,c∈p1\/(c∉p0/\c∉p2):=λ c hc=>(hs' c hc).imp id λ q=>⟨λ q'=>q (by simp[q']),λ q'=>q (by simp[q'])⟩
   have Eo:∀ c∈p0++ku++p2,c∈p0++p1++p2\/(c∉g0/\c∉g2):=λ c hc=>by
    simp only[a5G] at hc
    rcases hc with (hc|hc)|hc
    .exact .inl (by simp[hc])
    .rcases hs' c hc with q|q
     .exact .inl (by simp[q])
     .exact .inr ⟨λ q'=>q (by simp[q']),λ q'=>q (by simp[q'])⟩
    .exact .inl (by simp[hc])
   rw[a6m]
   refine⟨λ hc=>?_,xa (f1:=p0++p1++p2) (dV (dV n1 n2 λ x hx yl=>n3 x hx x yl rfl) n4 λ x hx yl=>n5 x hx x yl rfl) (xa Pc uy Qj) Eo⟩
   simp only[a5G] at hc
   rcases hc with (hc|(hc|hc)|hc)|hc
   .exact hb (by simp[hc])
   .exact hb (by simp[hc])
   .rcases hs' b hc with q|q
    .exact hb (by simp[q])
    .exact q (by simp)
   .exact hb (by simp[hc])
   .exact hb (by simp[hc])
  .intro c hc
   simp only[a5P,a5G] at hc
   rcases hc with hc|(hc|(hc|hc)|hc)|hc
   .exact .inl (by simp[hc])
   .exact .inl (by simp[hc])
   .exact .inl (by simp[hc])
   .exact .inr hc
   .exact .inl (by simp[hc])
   .exact .inl (by simp[hc])
end
end Go.Proofs.YtnehkikdlnmebaaGreatDoor

namespace Go.Proofs.YtnehkikdlnmebaaGreatDoor
section
variable {c:Ctx} {G:Gh} {s:af} {a:Act} {w w':World}
theorem CC(h:Inv c G s a w){o:Oper}{v:AV}{x:Value}{Q:Exit->Act->World->Prop}(hr:(execOp a.eval o).run c.P w = .ok (.value x) w)(hv:VR c G s.ae w v x) :
  o.wp c.P a w (λ a' w'=>∃ G',Inv c G' (s.put o.dst v) a' w') Q:=by
 unfold Oper.wp
 rw[hr]
 exact⟨G,Inv.put h hv⟩
theorem yW{η:Value}{τ:Ty}{xs:List τ.den}{fp:List Nat}(hT:km w η τ xs fp){a0:Option Addr}{n cap:Nat}{l:List Value}(gQ:η = .tuple (.slice a0 n cap::l).toArray){i:Nat}(hi:i<n) :
  n=xs.length/\∃ b f t,a0=some ⟨b,0,none⟩/\fp=b::f/\w.heap[b]?=some (.cells l.toArray t (0,0))/\bQ w (xs.map τ.aK) l f:=by
 obtain⟨v0,l0,a1,Rw,h1,h2,h3,h4,h5,h6⟩:=hT
 rw[gQ] at h1
 simp only[a7h] at h1
 have h1:(Value.slice a0 n cap::l)=v0::l0:=congrArg Array.toList h1
 simp only[a5L] at h1
 obtain⟨hq,vh⟩:=h1
 subst vh
 rw[h2] at hq
 simp only[a7B] at hq
 obtain⟨rfl,rfl,rfl⟩:=hq
 rcases h6 with ⟨rfl,_,_⟩|⟨b,f,t,q1,q2,q3,q4⟩
 .simp at hi
 .exact⟨rfl,b,f,t,q1,q2,q3,q4.2⟩
theorem IF{t:Ty}{x:Value}(h:C1 c G s.ae w (zeroCell t) x)(ht:t.agg=false):Ow w (t.aK t.zero) [x] []:=by
 cases t with
 | slice t' =>
  have h:x = .slice none 0 0:=h
  subst h
  exact⟨none,0,rfl,a6b _,by simp[maxLen],a6N _, .inl ⟨rfl,⟨rfl,rfl⟩,rfl⟩⟩
 | st s=>cases ht
 | mv t=>exact Ow.e9 (S:=G.S) _ rfl h.2
 | ptr=>exact Ow.e9 (S:=G.S) _ rfl h.2
 | int k=>exact Ow.e9 (S:=G.S) _ rfl h.2
 | bool=>exact Ow.e9 (S:=G.S) _ rfl h.2
 | str=>exact Ow.e9 (S:=G.S) _ rfl h.2
theorem VB(s:aR):∀ t∈s.uV,t.agg=false:=λ t ht=>by
 rw[<-aR.uS s s.zero] at ht
 obtain⟨u,hu,rfl⟩:=a5K.1 ht
 exact L4 s _ u hu
theorem YX{c:Ctx}{G:Gh}{s:af}{τ:Ty}{z:Value}(h:xi τ z=true):Ow w (τ.aK τ.zero) z.cells.toList []:=by
 have h1:=mq (c:=c) (G:=G) (lk:=s.ae) (w:=w) h
 cases τ with
 | st st =>
  simp only[zeroCells] at h1
  show Ow w (st.aK st.zero) _ []
  rw[aR.cr]
  have hz:(st.cells st.zero).map TV.aK=st.uV.map λ t=>t.aK t.zero:=by cases st<;>rfl
  rw[hz]
  have h2:=aN.of_map _ h1
  have:∀ (ts:List Ty) (vs:List Value),aN (λ t x=>Ow w (t.aK t.zero) [x] []) ts vs->dy w (ts.map λ t=>t.aK t.zero) vs []:=by
   intro ts
   induction ts with
   | nil=>intro vs h;cases vs<;>first|exact⟨rfl,rfl⟩|cases h
   | cons t ts ih =>
    intro vs h
    cases vs with
    | nil=>cases h
    | cons v vs=>exact⟨v,vs,[],[],rfl,rfl,h.1,ih vs h.2⟩
  exact this _ _ (h2.imp λ t x ht hx=>IF hx (VB st t ht))
 | _ =>
  simp only[zeroCells] at h1
  match hc:z.cells.toList,h1 with
  | [x],h1=>exact IF h1.1 rfl
theorem bQ.Ro:∀ (ds:List D) {es:List D} {l m:List Value} {n:Nat},bQ w ds l []->(∀ d∈ds,d.size=n)->l.length=ds.length * n->bQ w es m []->bQ w (ds++es) (l++m) []
 | [],es,l,m,n,_,_,hl,h=>by
  have:l=[]:=List.eq_nil_of_length_eq_zero (by simpa using hl)
  subst this;simpa using h
 | d::ds,es,l,m,n,h,hn,hl,h'=>by
  obtain⟨cc,r,f1,f2,rfl,hf,h3,h4⟩:=h
  have hf:=(List.append_eq_nil_iff.1 hf.symm)
  obtain⟨rfl,rfl⟩:=hf
  have hc:cc.length=n:=by rw[Ow.length _ h3];exact hn d (by simp)
  refine⟨cc,r++m,[],[],by simp,rfl,h3,bQ.Ro ds h4 (λ d hd=>hn d (by simp[hd])) ?_ h'⟩
  simp only[a5U,a5O,a6G,Nat.one_mul] at hl
  omega
theorem bQ.more:∀ (ds:List D) {l:List Value} {fp:List Nat} (m:List Value),bQ w ds l fp->bQ w ds (l++m) fp
 | [],_,_,_,h=>h
 | d::ds,_,_,m,h=>by
  obtain⟨cc,r,f1,f2,rfl,hf,h3,h4⟩:=h
  exact⟨cc,r++m,f1,f2,by simp,hf,h3,bQ.more ds m h4⟩
theorem Ex{d:D}{z:Array Value}(h:Ow w d z.toList []):∀ k:Nat,bQ w (List.replicate k d) (madeCells z (k * z.size)).toList []
 | 0=>rfl
 | k+1=>by
  have hz:d.size=z.size:=by have:=Ow.length _ h;simpa using this.symm
  rw[AM,a8t]
  refine bQ.Ro (n:=z.size) _ (Ex h k) (λ e he=>by rw[List.eq_of_mem_replicate he];exact hz) (by simp[madeCells]) ⟨z.toList,[],[],[],by simp,rfl,h,rfl⟩
theorem I6(h:Inv c G s a w)(id:Nat):Inv c G (s.gone id) a w:=by
 obtain⟨h1,_,_⟩:=h.clear id
 have cu:(s.gone id).ae=λ i=>if i=id then none else (s.bW id).ae i:=by
  funext i
  exact eo id _ i
 unfold Inv
 show bn c G (s.bW id).sl (s.bW id).aw.length (s.gone id).ae a w
 rw[cu,show (s.bW id).aw.length=s.aw.length from by simp[af.bW]]
 exact h1
theorem zI(s:af)(id i:Nat):(s.gone id).ae i=if i=id then none else (s.ae i).map (av.kill id):=by
 show ae (bK id (s.bW id).aH) i=_
 rw[eo,<-congrFun (dY s id) i]
 rfl
theorem uY:∀ (ids:List Nat) {s:af},Inv c G s a w->Inv c G (ids.foldl af.gone s) a w
 | [],_,h=>h
 | id::r,_,h=>uY r (I6 h id)
theorem Uf(id:Nat){τ:Ty}{xs:List τ.den}{o:Option av}(h:o=some (.aB τ xs)):o.map (av.kill id)=some (.aB τ xs):=by subst h;rfl
theorem Ku:∀ (ids:List Nat) {s:af} {id:Nat} {τ:Ty} {xs:List τ.den},s.ae id=some (.aB τ xs)->id∉ids->(ids.foldl af.gone s).ae id=some (.aB τ xs)
 | [],_,_,_,_,h,_=>h
 | i::r,s,id,τ,xs,h,hn=>by
  refine Ku r ?_ (λ hh=>hn (by simp[hh]))
  rw[zI,a5J (λ e=>hn (by simp[e]))]
  exact Uf i h
theorem Fc:∀ (ids:List Nat) {s:af} {i:Nat} {o:av},(ids.foldl af.gone s).ae i=some o->i∉ids/\∃ o',s.ae i=some o'/\∀ τ xs,o = .aB τ xs->o' = .aB τ xs
 | [],s,i,o,h=>⟨by simp,o,h,λ _ _ e=>e⟩
 | id::r,s,i,o,h=>by
  obtain⟨h1,o',h2,h3⟩:=Fc r h
  rw[zI] at h2
  split at h2
  .cases h2
  .rename_i dU
   simp only[a6r] at h2
   obtain⟨p,hp,hk⟩:=h2
   refine⟨by simp[dU,h1],p,hp,λ τ xs e=>?_⟩
   have:=h3 τ xs e
   subst this
   have hm:(some p).map (av.kill id)=some (.aB τ xs):=by rw[<-hk];rfl
   have:=ly hm
   simpa using this
theorem CF{o:Oper}{T:TypeId}{ad x:Operand}(bw:o.op = .store T ad x){w':World}{s':af}{G':Gh}(hr:(Instr.storeAt T (a.eval ad) (a.eval x)).run c.P w = .ok () w')(hI:Inv c G' (s'.put none .any) a w'){Q:Exit->Act->World->Prop} :
  o.wp c.P a w (λ a' w'=>∃ G',Inv c G' (s'.put o.dst .any) a' w') Q:=by
 unfold Oper.wp
 have:(execOp a.eval o).run c.P w = .ok .skip w':=by simp only[execOp,bw,a6d,hr,a5S,a6e]
 rw[this]
 exact⟨G',Inv.put (s:=s') hI trivial⟩
theorem N2(hE:bJ c.P c.E)(h:Inv c G s a w){T:TypeId}{τ aZ:Ty}{bt e:Nat}(hT:ae c.E.ty T=some (τ,bt,e)){id i off:Nat}{xs:List aZ.den}(aW:s.ae id=some (.aB aZ xs)){p x:Value}(hp:VR c G s.ae w (.eH id i off aZ.size) p)(qE:off+τ.size<=aZ.size)
  (tO:x.cells.toList.length=τ.size) (vg:∀ u∈x.cells.toList,u.oneCell'=true) {y:aZ.den}
  (hO:∀ (b:Nat) (f:List Nat) (l:List Value) (w':World),G.φ id=b::f->l.length>=i * aZ.size+aZ.size->bQ w (xs.map aZ.aK) l f->(∀ k,k≠b->w'.heap[k]?=w.heap[k]?) ->
   ∃ f',bQ w' ((xs.set i y).map aZ.aK) (l.take (i * aZ.size+off)++x.cells.toList++l.drop (i * aZ.size+off+τ.size)) f'/\f'.Nodup/\b∉f'/\∀ k∈f',k∈f\/uK c G s.ae w k) :
  ∃ w' G',(Instr.storeAt T p x).run c.P w = .ok () w'/\Inv c G' (s.cD.lC id aZ (xs.set i y)) a w':=by
 obtain⟨_,b,n,cap,l,gQ,hi,rfl⟩:=hp
 obtain⟨rfl,b',f,t,e1,uu,hh,jH⟩:=yW (h.aT.tr id aZ xs aW) gQ hi
 simp only[a5E,a7K,a5R] at e1
 subst e1
 have cz:∀ d∈xs.map aZ.aK,d.size=aZ.size:=by
  intro d hd
  obtain⟨z,_,rfl⟩:=a5K.1 hd
  exact Ty.cK aZ z
 obtain⟨_,_,_,_,hlen,_,_⟩:=bQ.split (xs.map aZ.aK) i (aZ.aK (xs.getD i aZ.zero)) jH cz (by simp[List.getD,hi])
 have cS:=zT (c:=c) (l:=l) hE hT (o:=i * aZ.size+off) (x:=x) hh tO vg (by omega)
 have yj:∀ k,k≠b->(w.setRow b (l.take (i * aZ.size+off)++x.cells.toList++l.drop (i * aZ.size+off+τ.size)).toArray).heap[k]?=w.heap[k]?:=λ k hk=>oi w hh k hk
 obtain⟨f',k1,k2,k3,k4⟩:=hO b f l _ uu hlen jH yj
 have rH:=a9R w b l.toArray (l.take (i * aZ.size+off)++x.cells.toList++l.drop (i * aZ.size+off+τ.size)).toArray t (0,0) hh
 have Xk:km (w.setRow b (l.take (i * aZ.size+off)++x.cells.toList++l.drop (i * aZ.size+off+τ.size)).toArray) (.tuple (.slice (some ⟨b,0,none⟩) xs.length cap::(l.take (i * aZ.size+off)++x.cells.toList++l.drop (i * aZ.size+off+τ.size))).toArray) aZ (xs.set i y) (b::f'):=by
  obtain⟨v0,l0,a1,Rw,h1,h2,h3,h4,h5,h6⟩:=h.aT.tr id aZ xs aW
  rw[gQ] at h1
  simp only[a7h] at h1
  have h1:(Value.slice (some ⟨b,0,none⟩) xs.length cap::l)=v0::l0:=congrArg Array.toList h1
  simp only[a5L] at h1
  obtain⟨hq,vh⟩:=h1
  rw[h2] at hq
  simp only[a7B] at hq
  obtain⟨rfl,_,rfl⟩:=hq
  have Ho:l.length=cap * aZ.size:=by
   rw[vh]
   rcases h6 with ⟨_,h',_⟩|⟨_,_,_,_,_,_,k0,_⟩
   .cases h'.1
   .exact k0
  exact⟨_,_,_,cap,rfl,by simp,by simpa using h3,h4,by simpa using h5, .inr ⟨b,f',t,rfl,rfl,rH,by rw[<-Ho];simp only[List.length_append,List.length_take,List.length_drop,tO];omega,k1⟩⟩
 have VY:=h.aT.pl id aZ xs
 have:=h.a0e (w':=w.setRow b (l.take (i * aZ.size+off)++x.cells.toList++l.drop (i * aZ.size+off+τ.size)).toArray) (t:=s.cD.lC id aZ (xs.set i y)) (F:=λ k=>k=b)
  (A:=[(id,(.tuple (.slice (some ⟨b,0,none⟩) xs.length cap::(l.take (i * aZ.size+off)++x.cells.toList++l.drop (i * aZ.size+off+τ.size))).toArray,b::f', .aB aZ (xs.set i y)))]) ?_ ?_ ?_ (by simp)
  ⟨rfl,rfl,rfl,by simp[World.setRow],λ k hk dU=>yj k dU⟩ (λ k hk=>⟨_,a6t.2 rfl,by rw[uu,hk];simp⟩) rfl (λ j=>?_) (d:=none) (v := .any) (x:=undef) (λ _ _=>trivial)
 .obtain⟨G',hG⟩:=this
  exact⟨_,G',cS,hG⟩
 .intro p hp
  simp only[a6t] at hp
  subst hp
  exact⟨aZ,xs,_,_,l,_,aW,rfl,gQ,rfl,Xk,a6m.2 ⟨k3,k2⟩⟩
 .intro p hp k hk
  simp only[a6t] at hp
  subst hp
  rcases a5P.1 hk with rfl|hk
  .exact .inl ⟨_,a6t.2 rfl,by rw[uu];simp⟩
  .rcases k4 k hk with hk|hk
   .exact .inl ⟨_,a6t.2 rfl,by rw[uu];simp[hk]⟩
   .exact .inr (hk.grow (by simp[World.setRow]))
 .intro p hp q hq k _ _
  simp only[a6t] at hp hq
  rw[hp,hq]
 .rw[S7,oX]
theorem AT.cells{w:World}{τ:Ty}{y:τ.den}{x:Value}{fp:List Nat}(h:AT w ⟨τ,y⟩ x fp):Ow w (τ.aK y) x.cells.toList fp:=by
 cases τ with
 | st s =>
  obtain⟨cs,rfl,h⟩:=h
  exact h
 | slice t =>
  obtain⟨a',cap,h1,_⟩:=id h
  simp only[a5L,a5R] at h1
  subst h1
  exact h
 | mv t =>
  have h1:=Ow.length _ (show Ow w (ZZ t.size t.aK y) [x] fp from h)
  cases hy:(show Option (List t.den) from y) with
  | none =>
   have e:y=(none:Option (List t.den)):=hy
   subst e
   obtain⟨⟨a',n,m,h1⟩,_⟩:=id h
   simp only[a5L,a5R] at h1
   subst h1
   exact h
  | some l =>
   have e:y=(some l:Option (List t.den)):=hy
   subst e
   obtain⟨a',cap,h1,_⟩:=id h
   simp only[a5L,a5R] at h1
   subst h1
   exact h
 | ptr=>obtain⟨⟨p,h1⟩,_⟩:=id h;simp only[a5L,a5R] at h1;subst h1;exact h
 | int k=>obtain⟨⟨h1,_⟩,_⟩:=id h;simp only[a5L,a5R] at h1;subst h1;exact h
 | bool=>have h1:=h.1;simp only[a5L,a5R] at h1;subst h1;exact h
 | str=>obtain⟨⟨z,h1,_⟩,_⟩:=id h;simp only[a5L,a5R] at h1;subst h1;exact h
theorem NY(l:List Value)(k:Nat)(v:Value)(h:k<l.length):l.take k++[v]++l.drop (k+1)=l.set k v:=by
 rw[List.set_eq_take_append_cons_drop,a5T h,a6u];rfl
theorem G6(h:Inv c G s a w){ids:List Nat}{b:Nat}(hb:uL G s.ae ids b):uK c G (ids.foldl af.gone s).ae w b:=by
 obtain⟨id,hi,hq⟩:=hb
 have hp:(c.w0.heap.size<=b\/c.X b)/\¬ G.S b/\b<w.heap.size:=by
  rcases hq with ⟨τ,xs,q1,q2⟩|⟨e,τ,xs,q1,q2⟩
  .obtain⟨p1,p2,p3,_⟩:=h.aT.pl id τ xs b q1 q2;exact⟨p1,p2,p3⟩
  .obtain⟨p1,p2,p3⟩:=h.place id _ b q1 q2;exact⟨p1,p2,p3⟩
 refine⟨hp.1,hp.2.1,hp.2.2,λ i o cm vb=>?_,λ j τ xs hj pL=>?_⟩
 .obtain⟨h1,o',h2,_⟩:=Fc ids cm
  rcases hq with ⟨τ,xs,q1,q2⟩|⟨e,τ,xs,q1,q2⟩
  .exact (h.aT.pl id τ xs b q1 q2).2.2.2 i o' h2 vb
  .have:=h.apart i id o' _ b h2 q1 vb q2
   subst this;exact h1 hi
 .obtain⟨h1,o',h2,h3⟩:=Fc ids hj
  have:=h3 τ xs rfl
  subst this
  rcases hq with ⟨aZ,cX,q1,q2⟩|⟨e,aZ,cX,q1,q2⟩
  .have:=h.aT.ap j id _ _ _ _ b h2 q1 pL q2
   subst this;exact h1 hi
  .exact (h.aT.pl j τ xs b h2 pL).2.2.2 id _ q1 q2
theorem Y3{l:List Operand}{u v:AV}(h:Inv c G s a w)(hl:l.map s.eval=[u,v]):∃ x y,l.map a.eval=[x,y]/\VR c G s.ae w u x/\VR c G s.ae w v y:=by
 have:=aN.pG (bp h) l
 rw[hl] at this
 match hx:l.map a.eval,this with
 | [x,y],hh=>exact⟨x,y,rfl,hh.1,hh.2.1⟩
theorem Un(hE:bJ c.P c.E)(h:Inv c G s a w){o:Oper}{vc:Vc}{s':af}(hq:QF c.E s o=some (vc,s'))(eJ:vc.ok){Q:Exit->Act->World->Prop} :
  o.wp c.P a w (λ a' w'=>∃ G',Inv c G' s' a' w') Q:=by
 unfold QF at hq
 split at hq
 case h_1 T x ix bw =>
  split at hq
  case h_2=>cases hq
  case h_1 τ r hT =>
  split at hq
  case h_2=>cases hq
  case h_1 k i id hi hx =>
  split at hq
  case h_2=>cases hq
  case h_1 aZ xs aW =>
  split at hq
  case h_2=>cases hq
  case h_1 kR =>
  have cz:aZ.size=τ.size:=by
   simp only[a7x] at kR
   rcases kR with kR|kR
   .rw[a6f kR]
   .unfold Ty.a0Q at kR
    split at kR
    .rename_i p q
     have e:=congrArg List.length (a6f kR)
     rw[a6B] at e
     have e1:=congrArg List.length (aR.uS p p.zero)
     have e2:=congrArg List.length (aR.uS q q.zero)
     rw[a6B,aR.jT] at e1 e2
     simp only[Ty.size];omega
    .cases kR
  simp only[a5E,a5H] at hq
  obtain⟨rfl,rfl⟩:=hq
  have tM:=bp h ix
  rw[hi] at tM
  obtain⟨tM,_⟩:=tM
  simp only[a5L,a5R] at tM
  have hv:=bp h x
  rw[hx] at hv
  obtain⟨hit,l,gQ,ad,m,cap,FF⟩:=hv
  obtain⟨h0,h1⟩:=eJ
  have hTr:=h.aT.tr id aZ xs aW
  rw[FF] at gQ
  have hm:m=xs.length:=by
   obtain⟨v0,l0,a1,Rw,q1,q2,_⟩:=hTr
   rw[gQ] at q1
   simp only[a7h] at q1
   have q1:(Value.slice ad m cap::l)=v0::l0:=congrArg Array.toList q1
   simp only[a5L] at q1
   rw[q2] at q1
   simp only[a7B] at q1
   exact q1.1.2.1
  subst hm
  obtain⟨_,b,f,t,e1,_⟩:=yW hTr gQ (i:=i.toNat) (by omega)
  subst e1
  refine CC h (x := .pointer (some ⟨b,0+i.toNat * τ.size,none⟩)) ?_ ⟨hit,b,_,cap,l,gQ,by omega,by simp⟩
  simp only[execOp,bw,FF,tM,a6d,ru hE hT h0 h1,a5S,a6e]
 case h_2 T x i bw =>
  split at hq
  case h_2=>cases hq
  case h_1 st r hT =>
  split at hq
  case h_2=>cases hq
  case h_1 id k off sz hx =>
  split at hq
  case h_2=>cases hq
  case h_1 bF =>
  simp only[a5E,a5H] at hq
  obtain⟨rfl,rfl⟩:=hq
  have bF:i<st.gV.length:=by simpa [Nat.blt_eq] using bF
  have hv:=bp h x
  rw[hx] at hv
  obtain⟨h1,b,m,cap,l,h2,h3,h4⟩:=hv
  refine CC h (x := .pointer (some ⟨b,k * sz+(off+st.fH i),none⟩)) ?_ ⟨h1,b,m,cap,l,h2,h3,rfl⟩
  simp only[execOp,bw,h4,a6d,lX hE hT bF,a5S,a6e,a8z]
 case h_3 T ad bw =>
  split at hq
  case h_2=>cases hq
  case h_1 τ r hT =>
  split at hq
  case h_2=>cases hq
  case h_1 id i off sz hx =>
  split at hq
  case h_2=>cases hq
  case h_1 aZ xs aW =>
  split at hq
  case h_2=>cases hq
  case h_1 u hu hb =>
  simp only[a5I,a6k] at hb
  obtain⟨zB,MS,Qd⟩:=hb
  have zB:=a5F zB
  subst zB
  have Qd:off<aZ.size:=by simpa [Nat.blt_eq] using Qd
  have hv:=bp h ad
  rw[hx] at hv
  obtain⟨h1,b,m,cap,l,h2,h3,h4⟩:=hv
  obtain⟨rfl,v,f1,p1,p2,_⟩:=UC (h.aT.tr id aZ xs aW) (h.aT.nd id aZ xs aW) h2 h3 hu MS Qd
  obtain⟨_,b',f,t,e1,_,hh,_⟩:=yW (h.aT.tr id aZ xs aW) h2 h3
  simp only[a5E,a7K,a5R] at e1
  subst e1
  have tJ:bP w b (i * aZ.size+off) [v]:=λ j z hj=>by
   cases j with
   | zero =>
    simp at hj
    subst hj
    simp[World.cell?,hh,p1]
   | succ j=>simp at hj
  have T5:τ.size=1:=Ty.lD MS
  have cS:(execOp a.eval o).run c.P w = .ok (.value (DW τ [v])) w:=by
   simp only[execOp,bw,h4,a6d,nL hE hT tJ (by rw[T5];rfl),a5S,a6e]
  have hmk:DW τ [v]=v:=by cases τ<;>first|rfl|cases MS
  rw[hmk] at cS
  have V0:u.τ=τ:=by
   unfold TV.part at hu
   split at hu
   .rename_i jG
    simp only[a5I] at jG
    simp only[a5E] at hu
    rw[<-hu];exact a6f jG.2
   .split at hu
    .split at hu
     .rename_i hd
      simp only[a5E] at hu
      rw[<-hu];exact a6f hd
     .cases hu
    .cases hu
  split at hq
  case h_1 zF =>
   simp only[a5E,a5H] at hq
   obtain⟨rfl,rfl⟩:=hq
   refine CC h cS ?_
   obtain⟨Tc,yu⟩:=u
   have V0:Tc=τ:=V0
   subst V0
   have hl:(Ty.aK Tc yu).light=true:=tv zF yu
   have hr:Rd w G.S (Ty.aK Tc yu) [v]:=by
    cases Tc with
    | int k=>exact p2.1
    | bool=>exact p2.1
    | str=>exact p2.1
    | slice t=>cases zF
    | mv t=>cases zF
    | ptr=>exact p2.1
    | st s=>cases zF
   cases Tc with
   | mv t=>cases zF
   | st s=>cases zF
   | slice t=>cases zF
   | _=>exact hr
  case h_2 zF =>
   simp only[a5E,a5H] at hq
   obtain⟨rfl,rfl⟩:=hq
   refine CC h cS ⟨h1,_,_,cap,l,h2,h3,p1,?_⟩
   obtain⟨Tc,yu⟩:=u
   have V0:Tc=τ:=V0
   subst V0
   cases Tc with
   | slice t =>
    obtain⟨a',Rv,q,_⟩:=p2
    simp only[a5L,a5R] at q
    exact⟨_,_,_,q⟩
   | st s=>cases MS
   | mv t =>
    cases hy:(show Option (List t.den) from yu) with
    | none =>
     have e:yu=(none:Option (List t.den)):=hy
     subst e
     obtain⟨⟨a',n,m,q⟩,_⟩:=p2
     simp only[a5L,a5R] at q
     exact⟨_,_,_,q⟩
    | some l =>
     have e:yu=(some l:Option (List t.den)):=hy
     subst e
     obtain⟨a',Rv,q,_⟩:=p2
     simp only[a5L,a5R] at q
     exact⟨_,_,_,q⟩
   | int k=>cases zF
   | bool=>cases zF
   | str=>cases zF
   | ptr=>cases zF
 case h_4 T ad x bw =>
  split at hq
  case h_2=>cases hq
  case h_1 τ r hT =>
  split at hq
  case h_2=>cases hq
  case h_1 id i off sz hx =>
  split at hq
  case h_2=>cases hq
  case h_1 aZ xs aW =>
  split at hq
  case h_2=>cases hq
  case h_1 hb =>
  simp only[a5I] at hb
  obtain⟨zB,Qd⟩:=hb
  have zB:=a5F zB
  subst zB
  have Qd:off<aZ.size:=by simpa [Nat.blt_eq] using Qd
  have hp:=bp h ad
  rw[hx] at hp
  have Ub:=bp h x
  have iX:i<xs.length:=by
   obtain⟨_,b,m,cap,l,h2,h3,_⟩:=hp
   obtain⟨h4,_⟩:=yW (h.aT.tr id aZ xs aW) h2 h3
   omega
  split at hq
  case h_1 zF =>
   split at hq
   case h_2=>cases hq
   case h_1 u j hu =>
   split at hq
   case h_2=>cases hq
   case h_1 u0 y ZQ hy =>
   simp only[a5E,a5H] at hq
   obtain⟨rfl,rfl⟩:=hq
   have Ao:τ.agg=false:=by cases τ<;>first|rfl|cases zF
   have T5:τ.size=1:=Ty.lD Ao
   have tJ:(a.eval x).cells.toList=[a.eval x]/\(a.eval x).oneCell'=true/\Ow w (τ.aK u) [a.eval x] []:=by
    have hc:C1 c G s.ae w (s.eval x) (a.eval x)/\(s.eval x).cell=true:=by
     have hcc:(s.eval x).cell=true:=by
      revert hu
      cases cY:s.eval x with
      | aS v =>
       intro hu
       simp only[fu] at hu
       split at hu
       .rename_i Nb
        have e:=TV.bd Nb
        subst e
        cases τ<;>first|rfl|cases Ao
       .cases hu
      | nil=>intro hu;cases τ<;>first|(cases zF;done)|(cases hu;done)
      | aB id=>intro hu;simp[fu] at hu
      | row id=>intro hu;simp[fu] at hu
      | _=>intro hu;cases hu
     exact⟨Ub.Py hcc,hcc⟩
    obtain⟨q1,q2⟩:=hc.1.leaf hc.2
    refine⟨by rw[q2],q1,?_⟩
    revert hu
    have MT:=hc.1
    revert MT
    cases s.eval x with
    | aS v =>
     intro MT hu
     simp only[fu] at hu
     split at hu
     .rename_i a4t Nb
      have e:=TV.bd Nb
      subst e
      simp only[a5E,a5H] at hu
      rw[<-hu.1]
      exact Ow.e9 (S:=G.S) _ (tv a4t _) MT.2
     .cases hu
    | nil=>intro _ hu;cases τ<;>first|(cases zF;done)|(cases hu;done)
    | aB id=>intro _ hu;simp[fu] at hu
    | row id=>intro _ hu;simp[fu] at hu
    | _=>intro _ hu;cases hu
   obtain⟨c1,c2,c3⟩:=tJ
   obtain⟨w',G',k1,k2⟩:=N2 hE h hT aW hp (y:=y) (x:=a.eval x) (by omega) (by rw[c1,T5];rfl) (by rw[c1];simpa using c2) (λ b f l w' OA hlen jH yj=>by
    have cz:∀ d∈xs.map aZ.aK,d.size=aZ.size:=by
     intro d hd
     obtain⟨z,_,rfl⟩:=a5K.1 hd
     exact Ty.cK aZ z
    have dC:=h.aT.nd id aZ xs aW
    rw[OA,a6m] at dC
    obtain⟨Ot,MZ⟩:=dC
    have jW:∀ k∈f,w'.heap[k]?=w.heap[k]?:=λ k hk=>yj k λ e=>Ot (e ▸ hk)
    obtain⟨g0,g1,g2,rfl,_,m1,m2⟩:=bQ.split (xs.map aZ.aK) i (aZ.aK (xs.getD i aZ.zero)) jH cz (by simp[List.getD,iX])
    obtain⟨v,p0,p1,p2,rfl,q1,q2,q3⟩:=KJ ZQ Ao m1
    have hy2:=q3 w' ⟨τ,u⟩ y (a.eval x) [] hy (λ k hk=>jW k (by simp at hk ⊢;rcases hk with hk|hk<;>simp[hk])) (c3.aM _ (by simp))
    have hr:=m2 w' (aZ.aK y) _ (p0++[]++p2) (λ k hk=>jW k (by simp at hk ⊢;rcases hk with hk|hk<;>simp[hk])) (by simp only[a7V,a6R,a6S];omega) hy2
    rw[SR l _ _ _ _ Qd hlen,<-a8E] at hr
    refine⟨_,by rw[c1,T5,NY _ _ _ (by omega)];exact hr,?_,λ hk=>Ot ?_,λ k hk => .inl ?_⟩
    .refine xa (f1:=p0++p1++p2) MZ (xa (f1:=p1) ?_ a6T (by simp)) (λ k hk => .inl (by simp at hk ⊢;rcases hk with hk|hk<;>simp[hk]))
     rw[a5Y,a5Y] at MZ
     exact MZ.1.2.1
    .simp at hk ⊢;rcases hk with hk|hk|hk|hk<;>simp[hk]
    .simp at hk ⊢;rcases hk with hk|hk|hk|hk<;>simp[hk])
   exact CF bw k1 k2
  case h_2 zF =>
   split at hq
   case h_2=>cases hq
   case h_1 y ids qE ht =>
   split at hq
   case h_2=>cases hq
   case h_1 y' dC Nb =>
   simp only[a5E,a5H] at hq
   obtain⟨rfl,rfl⟩:=hq
   have qE:=a5F qE
   subst qE
   have e:=TV.bd Nb
   have et:τ=aZ:=congrArg TV.τ e
   subst et
   cases e
   have dC:=dn dC
   rw[a6m] at dC
   obtain⟨a0J,ZC⟩:=dC
   obtain⟨fq,o1,o2,o3⟩:=tC h ht Ub ZC
   have mD:=AT.cells o1
   have hlen:=Ow.length _ mD
   rw[Ty.cK] at hlen
   have h1:=uY ids h
   have Pa:=Ku ids aW a0J
   obtain⟨_,b0,m0,a3r,l0,a4y,R8,hp0⟩:=hp
   obtain⟨w',G',k1,k2⟩:=N2 hE h1 hT Pa (i:=i) (off:=0) (p:=a.eval ad) ⟨by rw[Pa];rfl,b0,m0,a3r,l0,a4y,R8,hp0⟩ (y:=y) (x:=a.eval x) (by omega) hlen
    (Rd.mz (S:=λ b=>b∈fq) (x:=y) (Ow.rd _ mD λ b hb=>hb)) (λ b f l w' OA a5g jH yj=>by
    have cz:∀ d∈xs.map τ.aK,d.size=τ.size:=by
     intro d hd
     obtain⟨z,_,rfl⟩:=a5K.1 hd
     exact Ty.cK τ z
    have a0L:=h.aT.nd id τ xs aW
    rw[OA,a6m] at a0L
    obtain⟨Ot,MZ⟩:=a0L
    have jW:∀ k∈f,w'.heap[k]?=w.heap[k]?:=λ k hk=>yj k λ e=>Ot (e ▸ hk)
    have wA:∀ k∈fq,k∉b::f:=λ k hk iR=>by
     refine h.jX (o3 k hk) (j:=[id]) ⟨id,by simp, .inl ⟨τ,xs,aW,by rw[OA];exact iR⟩⟩ λ x1 Na y1 Oz e=>?_
     simp only[a6t] at Oz
     exact a0J (by rw[<-Oz,<-e];exact Na)
    obtain⟨g0,g1,g2,rfl,_,m1,m2⟩:=bQ.split (xs.map τ.aK) i (τ.aK (xs.getD i τ.zero)) jH cz (by simp[List.getD,iX])
    have hr:=m2 w' (τ.aK y) (a.eval x).cells.toList fq (λ k hk=>jW k (by simp at hk ⊢;rcases hk with hk|hk<;>simp[hk])) hlen (mD.aM _ λ k hk=>yj k λ e=>wA k hk (by simp[e]))
    rw[<-a8E] at hr
    refine⟨g0++fq++g2,by rw[a7D];exact hr,?_,λ hk=>?_,λ k hk=>?_⟩
    .rw[a5Y,a5Y] at MZ
     obtain⟨⟨n1,n2,n3⟩,n4,n5⟩:=MZ
     refine dV (dV n1 o2 λ k hk iR=>wA k iR (by simp[hk])) n4 λ k hk iR=>?_
     rcases a5G.1 hk with hk|hk
     .exact n5 k (a5G.2 (.inl hk)) k iR rfl
     .exact wA k hk (by simp[iR])
    .rcases a5G.1 hk with hk|hk
     .rcases a5G.1 hk with hk|hk
      .exact Ot (by simp[hk])
      .exact wA b hk (by simp)
     .exact Ot (by simp[hk])
    .rcases a5G.1 hk with hk|hk
     .rcases a5G.1 hk with hk|hk
      .exact .inl (by simp[hk])
      .exact .inr (G6 h (o3 k hk))
     .exact .inl (by simp[hk]))
   exact CF bw k1 k2
 case h_5 T l cc bw =>
  split at hq
  case h_2=>cases hq
  case h_1 d τ b e hd hT =>
  split at hq
  case h_2=>cases hq
  case h_1 eM =>
  have a4e:d<50:=by
   simp only[a5I] at eM
   simpa [Nat.blt_eq] using eM.2
  split at hq
  case h_2=>cases hq
  case h_1 n m hn hm =>
  simp only[a5E,a5H] at hq
  obtain⟨rfl,rfl⟩:=hq
  have hl:=bp h l
  have hc:=bp h cc
  rw[hn] at hl
  rw[hm] at hc
  obtain⟨hl,_⟩:=hl
  obtain⟨hc,_⟩:=hc
  simp only[a5L,a5R] at hl hc
  obtain⟨v1,v2,v3,v4⟩:=KC eJ
  obtain⟨h1,_,i,z,h3,h4,h5,h6,h7⟩:=hE.slice hT
  have ZT:=YX (c:=c) (G:=G) (s:=s) (w:=w.alloc (.cells (madeCells z.cells (m.toNat * i.size)) e)) h7
  have V2:=Ow.length _ ZT
  rw[Ty.cK,a6y] at V2
  have hr:=run_make (P:=c.P) w T e i z h1 h3 h6 .i64 .i64 n m v1 v2 (by rw[h5];omega) (by omega)
  have hI:=bn.alloc (I6 h d) (.cells (madeCells z.cells (m.toNat * i.size)) e)
  have rV:(s.gone d).ae d=none:=by rw[zI,a5T rfl]
  obtain⟨r1,r2⟩:=hI.NB rV
  have jH:bQ (w.alloc (.cells (madeCells z.cells (m.toNat * i.size)) e)) ((List.replicate n.toNat τ.zero).map τ.aK) (madeCells z.cells (m.toNat * i.size)).toList []:=by
   rw[a9L]
   have hle:n.toNat * z.cells.size<=m.toNat * i.size:=by rw[h4,V2];exact a7A _ (by omega)
   have:=bQ.more _ ((madeCells z.cells (m.toNat * i.size)).toList.drop (n.toNat * z.cells.size)) (Ex ZT n.toNat)
   rwa [<-AN _ _ _ hle,a7b] at this
  have Xk:km (w.alloc (.cells (madeCells z.cells (m.toNat * i.size)) e)) (.tuple (.slice (some ⟨w.heap.size,0,none⟩) n.toNat m.toNat::(madeCells z.cells (m.toNat * i.size)).toList).toArray) τ (List.replicate n.toNat τ.zero) [w.heap.size] :=
   ⟨_,_,some ⟨w.heap.size,0,none⟩,m.toNat,rfl,by simp,by simp;omega,by simp only[maxLen];omega,by simp;omega, .inr ⟨w.heap.size,[],e,rfl,rfl,by simpa using heap_alloc_new w (.cells (madeCells z.cells (m.toNat * i.size)) e),by simp[madeCells,h4],jH⟩⟩
  have hN:=hI.Ny d τ (List.replicate n.toNat τ.zero) _ [w.heap.size] rV r1 r2 (by
   cases hr:c.R d with
   | none=>rfl
   | some v=>exact absurd (h.ka d v hr).1 (Nat.not_le.2 a4e)) Xk (by simp) (λ k hk=>by
   simp only[a6t] at hk
   subst hk
   have hg:=I6 h d
   refine⟨.inl h.aM.size,λ hs=>a7W _ (h.dX _ hs),by simp,λ i o cm vb=>?_,λ j mr oB hj pL=>?_⟩
   .exact a7W _ (hg.place i o _ cm vb).2.2
   .exact a7W _ (hg.aT.pl j mr oB _ hj pL).2.2.1)
  unfold Oper.wp
  have cS:(execOp a.eval o).run c.P w = .ok (.value (.slice (some ⟨w.heap.size,0,none⟩) n.toNat m.toNat)) (w.alloc (.cells (madeCells z.cells (m.toNat * i.size)) e)):=by
   simp only[execOp,bw,hl,hc,a6d,hr,a5S,a6e]
  rw[cS]
  have key:=bn.put (d:=some d) (v := .aB d) (x := .slice (some ⟨w.heap.size,0,none⟩) n.toNat m.toNat) hN ⟨by simp[df],_,by simp;rfl,_,_,_,rfl⟩
  have cu:af.ae { aw:=(s.gone d).aw.set d (.aB d),aH:=(d, .aB τ (List.replicate n.toNat τ.zero))::(s.gone d).aH }=λ i=>if i=d then some (.aB τ (List.replicate n.toNat τ.zero)) else (s.gone d).ae i:=by
   funext i
   exact dE _ _ _ _
  have conv:∀ G',bn c G' (lL (s.gone d).aw.length (s.gone d).sl (some d) (.aB d)) (s.gone d).aw.length (λ i=>if i=d then some (.aB τ (List.replicate n.toNat τ.zero)) else (s.gone d).ae i) (a.put (some d) (.slice (some ⟨w.heap.size,0,none⟩) n.toNat m.toNat)) (w.alloc (.cells (madeCells z.cells (m.toNat * i.size)) e))->Inv c G' { aw:=(s.gone d).aw.set d (.aB d),aH:=(d, .aB τ (List.replicate n.toNat τ.zero))::(s.gone d).aH } (a.put o.dst (.slice (some ⟨w.heap.size,0,none⟩) n.toNat m.toNat)) (w.alloc (.cells (madeCells z.cells (m.toNat * i.size)) e)):=by
   intro G' hh
   unfold Inv
   rw[cu,hd,show af.sl { aw:=(s.gone d).aw.set d (.aB d),aH:=(d, .aB τ (List.replicate n.toNat τ.zero))::(s.gone d).aH }=lL (s.gone d).aw.length (s.gone d).sl (some d) (.aB d) from rv _ d _ _,
    show ({ aw:=(s.gone d).aw.set d (.aB d),aH:=(d, .aB τ (List.replicate n.toNat τ.zero))::(s.gone d).aH }:af).aw.length=(s.gone d).aw.length from by simp]
   exact hh
  exact⟨_,conv _ key⟩
 case h_6 cl bw =>
  split at hq
  case h_1 kQ =>
   split at hq
   case h_2=>cases hq
   case h_1 T id Qa zG =>
   split at hq
   case h_2=>cases hq
   case h_1 t r _ τ xs hT aW =>
   simp only[a5E,a5H] at hq
   obtain⟨rfl,rfl⟩:=hq
   have gb:=aN.pG (bp h) cl.args.toList
   rw[zG] at gb
   match np:cl.args.toList.map a.eval,gb with
   | [x],gb =>
    obtain⟨_,l,gQ,ad,m,cap,FF⟩:=gb.1
    have hm:m=xs.length/\xs.length<=140737488355328:=by
     obtain⟨v0,l0,a1,Rw,q1,q2,_,_,q5,_⟩:=h.aT.tr id τ xs aW
     rw[gQ,FF] at q1
     simp only[a7h] at q1
     have q1:(Value.slice ad m cap::l)=v0::l0:=congrArg Array.toList q1
     simp only[a5L] at q1
     rw[q2] at q1
     simp only[a7B] at q1
     exact⟨q1.1.2.1,q5⟩
    obtain⟨rfl,hmx⟩:=hm
    have Hk:cl.argTypes = #[T]:=by rw[<-a6K (xs:=cl.argTypes),Qa]
    have Hy:cl.args.map a.eval = #[x]:=by rw[<-a6K (xs:=cl.args.map a.eval),a7P,np]
    have MY:(execOp a.eval o)=(do let d <-resolve a.eval cl o.type;invoke d.target d.args):=by simp[execOp,bw]
    have Kv:(execOp a.eval o).run c.P w=((Builtin.len_ #[T] o.type #[x]).run c.P w).andThen λ v w => .ok (.value v) w:=by
     rw[MY]
     simp[resolve,kQ,invoke,builtin,Hk,Hy]
    obtain⟨k1,_,_⟩:=hE.slice hT
    have R5:∃ q,c.P.elem T=q/\c.P.underlying T=some (.slice q):=⟨_,by simp[Program.elem,k1],k1⟩
    obtain⟨q,R5,k1⟩:=R5
    refine CC h (x := .int .i64 xs.length) ?_ (a0b ⟨by omega,by omega⟩)
    rw[Kv,FF,run_len_slice w T o.type ad xs.length cap (by rw[R5];exact k1)]
    rfl
  case h_2 f kQ =>
   split at hq
   case h_2=>cases hq
   case h_1 d hd =>
   split at hq
   case h_2=>cases hq
   split at hq
   case h_1 m hm =>
    cases hq
   case h_2 hm =>
    split at hq
    case h_2=>cases hq
    case h_1 Z9 has =>
    split at hq
    case h_2=>cases hq
    case h_1 pre res hc =>
    split at hq
    case h_2=>cases hq
    case h_1 hb =>
    simp only[a5E,a5H] at hq
    obtain⟨rfl,rfl⟩:=hq
    simp only[a5I,a6i] at hb
    exact NK hE h has (aN.pG (bp h) cl.args.toList) hc eJ hd (λ p hp=>by simpa using hb.1 p hp) (dn hb.2) (by omega) (λ tK=>lB bw kQ rfl tK)
  case h_3=>cases hq
 case h_7=>cases hq
end
end Go.Proofs.YtnehkikdlnmebaaGreatDoor

namespace Go.Proofs.YtnehkikdlnmebaaGreatDoor
section
variable {w:World}
theorem bQ.join{n:Nat}:∀ (ds:List D) {l:List Value} {fp:List Nat},bQ w ds l fp->(∀ d∈ds,d.size=n) ->
  ds.length * n<=l.length/\∀ (es:List D) (m:List Value) (f2:List Nat),bQ w es m f2->bQ w (ds++es) (l.take (ds.length * n)++m) (fp++f2)
 | [],l,fp,h,_=>by
  have h:fp=[]:=h
  subst h
  exact⟨by simp,λ es m f2 k=>by simpa using k⟩
 | d::ds,l,fp,h,hn=>by
  obtain⟨c,r,f1,f2,rfl,rfl,h3,h4⟩:=h
  have hc:c.length=n:=by rw[Ow.length d h3];exact hn d (by simp)
  obtain⟨k1,k2⟩:=bQ.join ds h4 λ d hd=>hn d (by simp[hd])
  have e:(d::ds).length * n=c.length+ds.length * n:=by rw[a5O,a6G,hc];omega
  refine⟨by rw[e,a5U];omega,λ es m f3 k=>?_⟩
  refine⟨c,r.take (ds.length * n)++m,f1,f2++f3,?_,by simp,h3,k2 es m f3 k⟩
  rw[e,xD,a6u]
theorem bQ.rdL{n:Nat}:∀ (ds:List D) {l:List Value} {fp:List Nat},bQ w ds l fp->(∀ d∈ds,d.size=n)->dA w (λ _=>True) ds (l.take (ds.length * n))
 | [],l,fp,h,_=>by simp[dA]
 | d::ds,l,fp,h,hn=>by
  obtain⟨c,r,f1,f2,rfl,rfl,h3,h4⟩:=h
  have hc:c.length=n:=by rw[Ow.length d h3];exact hn d (by simp)
  have e:(d::ds).length * n=c.length+ds.length * n:=by rw[a5O,a6G,hc];omega
  exact⟨c,r.take (ds.length * n),by rw[e,xD],Ow.rd d h3 λ _ _=>trivial,bQ.rdL ds h4 λ d hd=>hn d (by simp[hd])⟩
theorem FK{τ:Ty}(xs:List τ.den):∀ d∈xs.map τ.aK,d.size=τ.size:=by
 intro d hd
 obtain⟨z,_,rfl⟩:=a5K.1 hd
 exact Ty.cK τ z
theorem Kq{g k:Nat}{l:List Value}{t:TypeId}(h:w.heap[g]?=some (.cells l.toArray t (0,0))):∀ j v,(l.take k)[j]?=some v->w.cell? ((⟨g,0,none⟩:Addr).add j)=some v:=by
 intro j v hj
 rw[a7j]
 have:=BC (w:=w) (b:=g) (p:=[]) (c:=l.take k) (r:=l.drop k) (t:=t) (by simpa using h) j v hj
 simpa using this
theorem H7{P:Program}(t ty e:TypeId)(i:TypeInfo)(ht:P.underlying t=some (.slice e))(hi:P.info? e=some i)
  (g NV Yu:Nat) (cur:Array Value) (t2:TypeId) (hg:w.heap[g]?=some (.cells cur t2 (0,0)))
  (a:Addr) (m c:Nat) (news:List Value) (hl:news.length=m * i.size) (FC:∀ j u,news[j]?=some u->w.cell? (a.add j)=some u) (h1:∀ u∈news,u.oneCell'=true)
  (zD:NV+m<=Yu) (BY:NV * i.size+news.length<=cur.size) :
  (Builtin.append_ #[t,t] ty #[.slice (some ⟨g,0,none⟩) NV Yu, .slice (some a) m c]).run P w =
   .ok (.slice (some ⟨g,0,none⟩) (NV+m) Yu) (w.setRow g (cur.toList.take (NV * i.size)++news++cur.toList.drop (NV * i.size+news.length)).toArray):=by
 have hf:=run_firstCells_some (P:=P) w i.size m a m c news hl FC
 have cp:=run_storeCells_at P g (NV * i.size) t2 news 0 cur w hg (by simpa using BY) h1
 simp only[a7D] at cp
 simp[Builtin.append_,a6x ht,sizeOf,typeInfo,hi,Builtin.lenOf,zD,hf,a7j,cp]
theorem O6{τ:Ty}{zs:List τ.den}{q:List Value}{fp:List Nat}{z:Array Value}{cap:Nat}{e:TypeId}(hq:bQ w (zs.map τ.aK) q fp)(hql:q.length=zs.length * τ.size)(Qs:z.size=τ.size)
  (hc:zs.length<=cap) (hm:cap<=maxLen) (h47:zs.length<=140737488355328) (bF:∀ b∈fp,b<w.heap.size) :
  km (w.drew.alloc (.cells (q.toArray++Builtin.zeroCells z (cap - zs.length)) e)) (.tuple (.slice (some ⟨w.heap.size,0,none⟩) zs.length cap::(q.toArray++Builtin.zeroCells z (cap - zs.length)).toList).toArray) τ zs (w.heap.size::fp):=by
 refine⟨_,_,some ⟨w.heap.size,0,none⟩,cap,rfl,rfl,hc,hm,h47, .inr ⟨w.heap.size,fp,e,rfl,rfl,?_,?_,?_⟩⟩
 .rw[a6K]
  exact a7f w.drew _
 .simp only[a9H,a5U,hql,a6y,size_zeroCells,Qs]
  rw[<-a6G]
  congr 1
  omega
 .rw[a9H]
  have hk:∀ b∈fp,(w.drew.alloc (.cells (q.toArray++Builtin.zeroCells z (cap - zs.length)) e)).heap[b]?=w.heap[b]?:=λ b hb=>a9w w.drew _ b (bF b hb)
  have:=bQ.aM _ hq hk
  have more:∀ (ds:List D) {l:List Value} {f:List Nat} (m:List Value),bQ (w.drew.alloc (.cells (q.toArray++Builtin.zeroCells z (cap - zs.length)) e)) ds l f->bQ (w.drew.alloc (.cells (q.toArray++Builtin.zeroCells z (cap - zs.length)) e)) ds (l++m) f:=by
   intro ds
   induction ds with
   | nil=>intro l f m h;exact h
   | cons d ds ih =>
    intro l f m h
    obtain⟨cc,r,f1,f2,rfl,hf,h3,h4⟩:=h
    exact⟨cc,r++m,f1,f2,by simp,hf,h3,ih m h4⟩
  exact more _ _ this
end
section
variable {c:Ctx} {G:Gh} {sl:Nat->AV} {n:Nat} {lk:Nat->Option av} {a:Act} {w w':World}
theorem PM(hE:bJ c.P c.E){T:TypeId}{τ:Ty}{b e:Nat}(hT:ae c.E.ty T=some (.slice τ,b,e)){xs ys:List τ.den}{x y:Value}{fx fy:List Nat}
  (hx:Ow w (.slice τ.size (xs.map τ.aK)) [x] fx) (hy:Ow w (.slice τ.size (ys.map τ.aK)) [y] fy) (hlx:∀ k∈fx,k<w.heap.size) (hly:∀ k∈fy,k<w.heap.size) (Ov:fx.Nodup) (ZH:fy.Nodup) (hd:∀ k∈fx,k∉fy)
  (zD:cE (xs.length+ys.length) b) (ty:TypeId) :
  ∃ v' w' fp l,(Builtin.append_ #[T,T] ty #[x,y]).run c.P w = .ok v' w'/\km w' (.tuple (v'::l).toArray) τ (xs++ys) fp/\(∃ a n m,v' = .slice a n m)/\fp.Nodup/\(∀ k∈fp,k∈fx\/k∈fy\/(w.heap.size<=k/\k<w'.heap.size))/\bX (λ k=>k∈fx) w w':=by
 obtain⟨k1,⟨b',e',k2⟩,i,zv,k3,k4,k5,k6,k7⟩:=hE.slice hT
 have Qs:zv.cells.size=τ.size:=by
  have:=Rd.length _ (IH (w:=w) (S:=λ _=>True) k7)
  rwa [Ty.cK,a6y] at this
 have Hu:=τ.size_pos
 have Oy:(xs.length+ys.length) * b<=140737488355328/\xs.length+ys.length<=140737488355328:=by
  unfold cE at zD
  rw[Nat.mul_add,a9t] at zD
  omega
 have Ht:xs.length+ys.length<=maxLen:=by simp only[maxLen];omega
 obtain⟨lx,hxT,_⟩:=km.X9 hx
 have V1:=hx
 obtain⟨ax,Ec,x1,x2,x3,x4,x5⟩:=hx
 obtain⟨ay,Rx,y1,y2,y3,y4,y5⟩:=hy
 simp only[a5L,a5R,a6B] at x1 x2 x4 y1 y2 y4
 subst x1 y1
 have same:(Builtin.append_ #[T,T] ty #[.slice ax xs.length Ec, .slice ay ys.length Rx]).run c.P w = .ok (.slice ax xs.length Ec) w->ys=[]->∃ v' w' fp l,(Builtin.append_ #[T,T] ty #[.slice ax xs.length Ec, .slice ay ys.length Rx]).run c.P w = .ok v' w'/\km w' (.tuple (v'::l).toArray) τ (xs++ys) fp/\(∃ a n m,v' = .slice a n m)/\fp.Nodup/\(∀ k∈fp,k∈fx\/k∈fy\/(w.heap.size<=k/\k<w'.heap.size))/\bX (λ k=>k∈fx) w w':=by
  intro hr he
  subst he
  exact⟨_,w,fx,lx,hr,by simpa using hxT,⟨_,_,_,rfl⟩,Ov,λ k hk => .inl hk,bX.refl _ _⟩
 rcases y5 with ⟨q1,⟨q2,q3⟩,q4⟩|⟨gy,f2,l2,t2,q1,q2,q3,q4,q5⟩
 .have Hz:ys=[]:=by simpa using q1
  subst Hz
  refine same ?_ rfl
  subst q2
  simp[Builtin.append_,a6x k1,sizeOf,typeInfo,k3,Builtin.lenOf,Builtin.firstCells,x2,storeCells]
  cases ax<;>rfl
 .subst q1 q2
  have hsy:=FK ys
  obtain⟨j1,_⟩:=bQ.join _ q5 hsy
  rw[a6B] at j1
  have A6:(l2.take (ys.length * τ.size)).length=ys.length * τ.size:=by rw[a6R];omega
  have vg:∀ u∈l2.take (ys.length * τ.size),u.oneCell'=true:=by
   have:=bQ.rdL _ q5 hsy
   rw[a6B] at this
   exact dA.mz this
  have FC:=Kq (w:=w) (k:=ys.length * τ.size) q3
  have XQ:bQ w (ys.map τ.aK) (l2.take (ys.length * τ.size)) f2:=by
   have:=(bQ.join _ q5 hsy).2 [] [] [] rfl
   simpa using this
  rcases x5 with ⟨p1,⟨p2,p3⟩,p4⟩|⟨gx,f1,l1,t1,p1,p2,p3,p4,p5⟩
  .have np:xs=[]:=by simpa using p1
   subst np p2 p3 p4
   by_cases hm:ys=[]
   .refine same ?_ hm
    subst hm
    simp[Builtin.append_,a6x k1,sizeOf,typeInfo,k3,Builtin.lenOf,Builtin.firstCells,loadCells,loadCellsFrom]
   .have hm0:0<ys.length:=List.length_pos_iff.2 hm
    have hr:=run_append_nil (P:=c.P) w T ty e i zv k1 k3 k6 ⟨gy,0,none⟩ ys.length Rx (l2.take (ys.length * τ.size)) (by rw[A6,k4]) FC hm0 (by omega) (by rw[k5];have:=Oy.1;simp only[a6a,a6X] at this;omega)
    have hg:=O6 (w:=w) (e:=e) (zs:=ys) (cap:=grownCap w ys.length 0 e) XQ A6 Qs (grownCap_ge w ys.length 0 e) (grownCap_le_maxLen w ys.length 0 e (by simpa using Ht)) (by omega) (λ k hk=>hly k (by simp[hk]))
    refine⟨.slice (some ⟨w.heap.size,0,none⟩) ys.length (grownCap w ys.length 0 e),w.drew.alloc (.cells ((l2.take (ys.length * τ.size)).toArray++Builtin.zeroCells zv.cells (grownCap w ys.length 0 e - ys.length)) e),w.heap.size::f2,_,hr,hg,⟨_,_,_,rfl⟩,?_,?_,⟨rfl,rfl,rfl,by simp,λ k hk _=>a9w w.drew _ k hk⟩⟩
    .rw[a6m] at ZH ⊢
     exact⟨λ hh=>a7W _ (hly _ (by simp[hh])),ZH.2⟩
    .intro k hk
     rcases a5P.1 hk with rfl|hk
     .exact .inr (.inr ⟨a6b _,by simp⟩)
     .exact .inr (.inl (by simp[hk]))
  .subst p1 p2
   have hsx:=FK xs
   obtain⟨i1,i2⟩:=bQ.join _ p5 hsx
   rw[a6B] at i1 i2
   have tO:(l1.take (xs.length * τ.size)).length=xs.length * τ.size:=by rw[a6R];omega
   have MZ:(f1++f2).Nodup/\gx∉f1++f2:=by
    rw[a6m] at Ov ZH
    refine⟨a5Y.2 ⟨Ov.2,ZH.2,λ k hk k' iR e=>?_⟩,λ hh=>?_⟩
    .subst e;exact hd k (by simp[hk]) (by simp[iR])
    .rcases a5G.1 hh with hh|hh
     .exact Ov.1 hh
     .exact hd gx (by simp) (by simp[hh])
   have jH:=i2 (ys.map τ.aK) _ f2 XQ
   rw[<-a7l] at jH
   by_cases BY:xs.length+ys.length<=Ec
   .have mD:xs.length * i.size+(l2.take (ys.length * τ.size)).length<=l1.toArray.size:=by
     rw[A6,k4,<-a6G,List.size_toArray,p4]
     exact a7A _ BY
    have hr:=H7 (P:=c.P) (w:=w) T ty e i k1 k3 gx xs.length Ec l1.toArray t1 p3 ⟨gy,0,none⟩ ys.length Rx (l2.take (ys.length * τ.size)) (by rw[A6,k4]) FC vg BY mD
    have jW:∀ k,k≠gx->(w.setRow gx (l1.toArray.toList.take (xs.length * i.size)++l2.take (ys.length * τ.size)++l1.toArray.toList.drop (xs.length * i.size+(l2.take (ys.length * τ.size)).length)).toArray).heap[k]?=w.heap[k]?:=λ k hk=>oi w p3 k hk
    refine⟨_,_,gx::(f1++f2),(l1.take (xs.length * τ.size)++l2.take (ys.length * τ.size)++l1.drop (xs.length * τ.size+ys.length * τ.size)),hr,?_,⟨_,_,_,rfl⟩,a6m.2 ⟨MZ.2,MZ.1⟩,?_,⟨rfl,rfl,rfl,by simp[World.setRow],λ k hk dU=>jW k λ e=>dU (by simp[e])⟩⟩
    .refine⟨_,_,some ⟨gx,0,none⟩,Ec,rfl,by simp,by simpa using BY,x3,by simp;omega, .inr ⟨gx,f1++f2,t1,rfl,rfl,?_,?_,?_⟩⟩
     .have:=a9R w gx l1.toArray (l1.toArray.toList.take (xs.length * i.size)++l2.take (ys.length * τ.size)++l1.toArray.toList.drop (xs.length * i.size+(l2.take (ys.length * τ.size)).length)).toArray t1 (0,0) p3
      rw[this,A6,k4]
     .simp only[a5U,tO,A6,a6S,p4]
      have:xs.length * τ.size+ys.length * τ.size<=Ec * τ.size:=by rw[<-a6G];exact a7A _ BY
      omega
     .have hk:∀ k∈f1++f2,(w.setRow gx (l1.toArray.toList.take (xs.length * i.size)++l2.take (ys.length * τ.size)++l1.toArray.toList.drop (xs.length * i.size+(l2.take (ys.length * τ.size)).length)).toArray).heap[k]?=w.heap[k]?:=λ k hk=>jW k λ e=>MZ.2 (e ▸ hk)
      have h2:=bQ.aM _ jH hk
      have more:∀ (w2:World) (ds:List D) {l:List Value} {f:List Nat} (m:List Value),bQ w2 ds l f->bQ w2 ds (l++m) f:=by
       intro w2 ds
       induction ds with
       | nil=>intro l f m h;exact h
       | cons d ds ih =>
        intro l f m h
        obtain⟨cc,r,f1,f2,rfl,hf,h3,h4⟩:=h
        exact⟨cc,r++m,f1,f2,by simp,hf,h3,ih m h4⟩
      exact more _ _ _ h2
    .intro k hk
     rcases a5P.1 hk with rfl|hk
     .exact .inl (by simp)
     .rcases a5G.1 hk with hk|hk
      .exact .inl (by simp[hk])
      .exact .inr (.inl (by simp[hk]))
   .have hr:=run_append_grow (P:=c.P) w T ty e i zv k1 k3 k6 ⟨gx,0,none⟩ xs.length Ec (l1.take (xs.length * τ.size)) (by rw[tO,k4]) (Kq p3) ⟨gy,0,none⟩ ys.length Rx (l2.take (ys.length * τ.size)) (by rw[A6,k4]) FC (by omega) (by omega) (by rw[k5];exact growslice_fits (by omega) Oy.1)
    have hql:(l1.take (xs.length * τ.size)++l2.take (ys.length * τ.size)).length=(xs++ys).length * τ.size:=by rw[a5U,tO,A6,a5U,a6G]
    have hle:(xs++ys).length=xs.length+ys.length:=a5U
    have bF:∀ k∈f1++f2,k<w.heap.size:=λ k hk=>by
     rcases a5G.1 hk with hk|hk
     .exact hlx k (by simp[hk])
     .exact hly k (by simp[hk])
    have hg:=O6 (w:=w) (e:=e) (zs:=xs++ys) (cap:=grownCap w (xs.length+ys.length) Ec e) jH hql Qs (by rw[hle];exact grownCap_ge w _ _ e) (grownCap_le_maxLen w _ _ e Ht) (by omega) bF
    rw[hle] at hg
    refine⟨_,w.drew.alloc (.cells ((l1.take (xs.length * τ.size)).toArray++(l2.take (ys.length * τ.size)).toArray++Builtin.zeroCells zv.cells (grownCap w (xs.length+ys.length) Ec e - (xs.length+ys.length))) e),w.heap.size::(f1++f2),_,hr,by simpa [hle] using hg,⟨_,_,_,rfl⟩,?_,?_,⟨rfl,rfl,rfl,by simp,λ k hk _=>heap_alloc_old w.drew _ k hk⟩⟩
    .exact a6m.2 ⟨λ hh=>a7W _ (bF _ hh),MZ.1⟩
    .intro k hk
     rcases a5P.1 hk with rfl|hk
     .exact .inr (.inr ⟨a6b _,by simp⟩)
     .rcases a5G.1 hk with hk|hk
      .exact .inl (by simp[hk])
      .exact .inr (.inl (by simp[hk]))
end
end Go.Proofs.YtnehkikdlnmebaaGreatDoor

namespace Go.Proofs.YtnehkikdlnmebaaGreatDoor
section
variable {c:Ctx} {G:Gh} {s:af} {a:Act} {w w':World}
theorem Inv.built(h:Inv c G s a w){ids:List Nat}{d:Nat}{τ:Ty}{zs:List τ.den}{fp:List Nat}{v':Value}{l:List Value}(hk:bX (λ b=>uL G s.ae ids b) w w')(hT:km w' (.tuple (v'::l).toArray) τ zs fp)
  (hv:∃ a n m,v' = .slice a n m) (dC:fp.Nodup) (uu:∀ b∈fp,uL G s.ae ids b\/(w.heap.size<=b/\b<w'.heap.size)) (rV:(ids.foldl af.gone s).ae (bM d)=none) :
  ∃ G',Inv c G' ((ids.foldl af.gone s).sL d τ zs) (a.put (some d) v') w':=by
 have h1:Inv c G (ids.foldl af.gone s) a w:=uY ids h
 have hF:∀ b,uL G s.ae ids b->uK c G (ids.foldl af.gone s).ae w b:=λ b hb=>G6 h hb
 generalize T5:ids.foldl af.gone s=s1 at *
 have kP:∀ b,b<w.heap.size->¬ uL G s.ae ids b->w'.heap[b]?=w.heap[b]?:=λ b hb hn=>hk.block b hb hn
 have h2:bn c G s1.sl s1.aw.length s1.ae a w':=by
  refine bn.world (S':=G.S) h1 ⟨hk.os,hk.tape,hk.output,hk.size,λ b hb hn=>kP b hb λ hi=>hn (hF b hi).1⟩ (λ _ h=>h) (λ _ _=>a7N) h1.sX (λ b hb=>a5Q (h1.dX b hb) hk.size) ?_ ?_ ?_
  .intro b hb
   rcases hb with hb|hb
   .exact kP b (h1.dX b hb) λ hi=>(hF b hi).2.1 hb
   .exact kP b (a5Q hb.1 h1.aM.size) λ hi=>(hF b hi).1.elim (λ q=>by omega) hb.2.1
  .intro id o b ho hb
   exact kP b (h1.place id o b ho hb).2.2 λ hi=>(hF b hi).2.2.2.1 id o ho hb
  .intro id aZ cX b ht hb
   exact kP b (h1.aT.pl id aZ cX b ht hb).2.2.1 λ hi=>(hF b hi).2.2.2.2 id aZ cX ht hb
 obtain⟨r1,r2⟩:=h2.NB rV
 have hR:c.R (bM d)=none:=by
  cases hr:c.R (bM d) with
  | none=>rfl
  | some v=>have:=(h.ka _ v hr).2;unfold bM at this;omega
 have h3:=h2.Ny (bM d) τ zs _ fp rV r1 r2 hR hT dC (λ b hb=>by
  rcases uu b hb with hi|⟨q1,q2⟩
  .obtain⟨f1,f2,f3,f4,f5⟩:=hF b hi
   exact⟨f1,f2,a5Q f3 hk.size,f4,f5⟩
  .refine⟨.inl (a7T h1.aM.size q1),λ hs=>?_,q2,λ i o cm vb=>?_,λ j mr oB hj pL=>?_⟩
   .have:=h1.dX b hs;omega
   .have:=(h1.place i o b cm vb).2.2;omega
   .have:=(h1.aT.pl j mr oB b hj pL).2.2.1;omega)
 have key:=bn.put (d:=some d) (v := .aB (bM d)) (x:=v') h3 ⟨by simp[df],l,by simp,hv⟩
 have cu:(s1.sL d τ zs).ae=λ i=>if i=bM d then some (.aB τ zs) else s1.ae i:=by
  funext i
  exact dE _ _ _ _
 have conv:∀ G',bn c G' (lL s1.aw.length s1.sl (some d) (.aB (bM d))) s1.aw.length (λ i=>if i=bM d then some (.aB τ zs) else s1.ae i) (a.put (some d) v') w'->Inv c G' (s1.sL d τ zs) (a.put (some d) v') w':=by
  intro G' hh
  unfold Inv
  rw[cu,show (s1.sL d τ zs).sl=lL s1.aw.length s1.sl (some d) (.aB (bM d)) from rv _ d _ _,show (s1.sL d τ zs).aw.length=s1.aw.length from by simp[af.sL]]
  exact hh
 exact⟨_,conv _ key⟩
theorem Inv.over{s1:af}{X:Nat->Prop}(h1:Inv c G s1 a w)(hF:∀ b,X b->uK c G s1.ae w b)(hk:bX X w w'):bn c G s1.sl s1.aw.length s1.ae a w':=by
 have kP:∀ b,b<w.heap.size->¬ X b->w'.heap[b]?=w.heap[b]?:=λ b hb hn=>hk.block b hb hn
 refine bn.world (S':=G.S) h1 ⟨hk.os,hk.tape,hk.output,hk.size,λ b hb hn=>kP b hb λ hi=>hn (hF b hi).1⟩ (λ _ h=>h) (λ _ _=>a7N) h1.sX (λ b hb=>a5Q (h1.dX b hb) hk.size) ?_ ?_ ?_
 .intro b hb
  rcases hb with hb|hb
  .exact kP b (h1.dX b hb) λ hi=>(hF b hi).2.1 hb
  .exact kP b (a5Q hb.1 h1.aM.size) λ hi=>(hF b hi).1.elim (λ q=>by omega) hb.2.1
 .intro id o b ho hb
  exact kP b (h1.place id o b ho hb).2.2 λ hi=>(hF b hi).2.2.2.1 id o ho hb
 .intro id aZ cX b ht hb
  exact kP b (h1.aT.pl id aZ cX b ht hb).2.2.1 λ hi=>(hF b hi).2.2.2.2 id aZ cX ht hb
theorem uK.Z1{lk:Nat->Option av}{b:Nat}(h:uK c G lk w b):¬ SX G lk b:=by
 rintro (hb|⟨id,e,τ,ys,aW,hb⟩|⟨id,τ,ys,aW,hb⟩)
 .exact h.2.1 hb
 .exact h.2.2.2.1 id _ aW hb
 .exact h.2.2.2.2 id τ ys aW hb
theorem vM(h:Inv c G s a w):∀ {fl:List Bool} {Ts:List TypeId} {vs:List AV} {xs:List Value} {own:List (Option TV)} {ids:List Nat},iD c.E s.ae fl Ts vs=some (own,ids)->ids.Nodup->aN (VR c G s.ae w) vs xs ->
  ∃ xm:List (List Nat),aN (λ (o:Option TV) (q:Value×List Nat)=>match o with
   | some v=>AT w v q.1 q.2
   | none=>q.2=[]) own (xs.zip xm)/\xm.length=xs.length/\xm.flatten.Nodup/\∀ b∈xm.flatten,uL G s.ae ids b
 | [],[],[],[],own,ids,ht,_,_=>by
  simp only[iD,a5E,a5H] at ht
  obtain⟨rfl,rfl⟩:=ht
  exact⟨[],trivial,rfl,by simp,by simp⟩
 | true::fl,T::Ts,v::vs,x::xs,own,ids,ht,hn,hv=>by
  simp only[iD] at ht
  split at ht
  case h_2=>cases ht
  case h_1 τ q hT =>
  split at ht
  case h_2=>cases ht
  case h_1 y i hy =>
  split at ht
  case h_2=>cases ht
  case h_1 r j hr =>
  simp only[a5E,a5H] at ht
  obtain⟨rfl,rfl⟩:=ht
  rw[a5Y] at hn
  obtain⟨n1,n2,n3⟩:=hn
  obtain⟨f1,o1,o2,o3⟩:=tC h hy hv.1 n1
  obtain⟨xm,p1,p2,p3,p4⟩:=vM h hr n2 hv.2
  refine⟨f1::xm,⟨o1,p1⟩,by simp[p2],?_,?_⟩
  .rw[List.flatten_cons]
   exact dV o2 p3 λ b hb cw=>h.jX (o3 b hb) (p4 b cw) (λ x hx y hy=>n3 x hx y hy)
  .intro b hb
   rw[List.flatten_cons] at hb
   rcases a5G.1 hb with hb|hb
   .exact (o3 b hb).mono λ i hi=>by simp[hi]
   .exact (p4 b hb).mono λ i hi=>by simp[hi]
 | false::fl,T::Ts,v::vs,x::xs,own,ids,ht,hn,hv=>by
  simp only[iD] at ht
  split at ht
  case h_2=>cases ht
  case h_1 r j hr =>
  simp only[a5E,a5H] at ht
  obtain⟨rfl,rfl⟩:=ht
  obtain⟨xm,p1,p2,p3,p4⟩:=vM h hr hn hv.2
  exact⟨[]::xm,⟨rfl,p1⟩,by simp[p2],by simpa using p3,by simpa using p4⟩
 | [],_::_,_,_,_,_,ht,_,_=>by simp[iD] at ht
 | [],[],_::_,_,_,_,ht,_,_=>by simp[iD] at ht
 | [],[],[],_::_,_,_,_,_,hv=>hv.elim
 | true::_,[],_,_,_,_,ht,_,_=>by simp[iD] at ht
 | false::_,[],_,_,_,_,ht,_,_=>by simp[iD] at ht
 | true::_,_::_,[],_,_,_,ht,_,_=>by simp[iD] at ht
 | false::_,_::_,[],_,_,_,ht,_,_=>by simp[iD] at ht
 | _,_,_::_,[],_,_,_,_,hv=>hv.elim
theorem tQ(hE:bJ c.P c.E)(h:Inv c G s a w):∀ {own:List (Option TV)} {Ts:List TypeId} {vs:List AV} {xs:List Value} {xm:List (List Nat)} {Z9:List Arg},fV c.E s.ae own Ts vs=some Z9 ->
  aN (λ (o:Option TV) (q:Value×List Nat)=>match o with
   | some v=>AT w v q.1 q.2
   | none=>q.2=[]) own (xs.zip xm)->xm.length=xs.length->aN (VR c G s.ae w) vs xs->tF c.P w (SX G s.ae) Z9 xs xm.flatten/\∀ a∈Z9,a.F8=true
 | [],[],[],[],xm,Z9,hm,hO,hl,hv=>by
  simp only[fV,a5E] at hm
  subst hm
  have:xm=[]:=List.eq_nil_of_length_eq_zero (by simpa using hl)
  subst this
  exact⟨rfl,by simp⟩
 | some y::own,T::Ts,v::vs,x::xs,f::xm,Z9,hm,hO,hl,hv=>by
  simp only[fV] at hm
  split at hm
  case h_2=>cases hm
  case h_1 r hr =>
  simp only[a5E] at hm
  subst hm
  obtain⟨q1,q2⟩:=tQ hE h hr hO.2 (by simpa using hl) hv.2
  refine⟨⟨f,xm.flatten,by simp,hO.1,q1⟩,λ a ha=>?_⟩
  rcases a5P.1 ha with rfl|ha
  .rfl
  .exact q2 a ha
 | none::own,T::Ts,v::vs,x::xs,f::xm,Z9,hm,hO,hl,hv=>by
  simp only[fV] at hm
  split at hm
  case h_2=>cases hm
  case h_1 y hy =>
  split at hm
  case h_2=>cases hm
  case h_1 r Kx hr =>
  simp only[a5E] at hm
  subst hm
  obtain⟨q1,q2⟩:=tQ hE h hr hO.2 (by simpa using hl) hv.2
  have hf:f=[]:=hO.1
  subst hf
  have h1:=jw hE h (λ _ _ h=>h) (λ _ h => .inl h) (λ τ v x y h1 h2=>y6 h.aT h.aH (λ _ _ h=>h) h1 h2) (Ts:=[T]) (vs:=[v]) (Z9:=[y]) (xs:=[x]) (by simp only[nQ,hy]) ⟨hv.1,trivial⟩
  refine⟨⟨[],xm.flatten,by simp,?_,q1⟩,λ a ha=>?_⟩
  .have h1:=h1.1
   cases y with
   | own v=>exact h1.elim
   | box k=>exact h1.elim
   | _=>exact⟨rfl,h1⟩
  .rcases a5P.1 ha with rfl|ha
   .exact Kx
   .exact q2 a ha
 | [],[],[],_::_,_,_,_,_,_,hv=>hv.elim
 | _,_,_::_,[],_,_,_,_,_,hv=>hv.elim
 | [],_::_,_,_,_,_,hm,_,_,_=>by simp[fV] at hm
 | [],[],_::_,_,_,_,hm,_,_,_=>by simp[fV] at hm
 | some _::_,[],_,_,_,_,hm,_,_,_=>by simp[fV] at hm
 | none::_,[],_,_,_,_,hm,_,_,_=>by simp[fV] at hm
 | some _::_,_::_,[],_,_,_,hm,_,_,_=>by simp[fV] at hm
 | none::_,_::_,[],_,_,_,hm,_,_,_=>by simp[fV] at hm
 | _::_,_::_,_::_,_::_,[],_,_,_,hl,_=>by simp at hl
theorem N4{lk:Nat->Option av}{τ:Ty}:∀ {ps:List (Nat×AV)} {n:Nat} {xs:List τ.den} {ids:List Nat},CL lk τ n ps=some (xs,ids)->xs.length=ps.length
 | [],n,xs,ids,h=>by
  simp only[CL,a5E,a5H] at h
  obtain⟨rfl,_⟩:=h;rfl
 | (i,v)::ps,n,xs,ids,h=>by
  simp only[CL] at h
  split at h
  .split at h
   .split at h
    .rename_i q
     simp only[a5E,a5H] at h
     obtain⟨rfl,_⟩:=h
     simp[N4 q]
    .cases h
   .cases h
  .cases h
theorem KQ(h:Inv c G s a w){τ:Ty}{place:Nat->Option (Nat×Nat)}(hp:∀ i,place i=some (i * τ.size,τ.size)) :
  ∀ {ps:List (Nat×AV)} {vs:List (Nat×Value)} {n:Nat} {xs:List τ.den} {ids:List Nat} {l:List Value},CL s.ae τ n ps=some (xs,ids)->aN (λ p q=>p.1=q.1/\VR c G s.ae w p.2 q.2) ps vs->ids.Nodup ->
   (n+ps.length) * τ.size=l.length->∃ r fp,Instr.fill place l.toArray vs=some (l.take (n * τ.size)++r).toArray/\bQ w (xs.map τ.aK) r fp/\r.length=xs.length * τ.size/\fp.Nodup/\∀ b∈fp,uL G s.ae ids b
 | [],[],n,xs,ids,l,h1,_,_,hl=>by
  simp only[CL,a5E,a5H] at h1
  obtain⟨rfl,rfl⟩:=h1
  refine⟨[],[],?_,rfl,by simp,a6T,by simp⟩
  simp only[a6a,a7D] at hl
  rw[hl,a8g,a7a]
  rfl
 | (i,v)::ps,(j,x)::vs,n,xs,ids,l,h1,hv,dC,hl=>by
  obtain⟨⟨yh,hx⟩,M5⟩:=hv
  have yh:i=j:=yh
  subst yh
  simp only[CL] at h1
  split at h1
  .rename_i iX
   have iX:=a5F iX
   subst iX
   split at h1
   .rename_i y i1 hy
    split at h1
    .rename_i ys js Hz
     simp only[a5E,a5H] at h1
     obtain⟨rfl,rfl⟩:=h1
     rw[a5Y] at dC
     obtain⟨n1,n2,n3⟩:=dC
     obtain⟨f1,o1,o2,o3⟩:=tC h hy hx n1
     have hr:=AT.cells o1
     have cz:x.cells.size=τ.size:=by
      have:=Ow.length _ hr
      rw[Ty.cK] at this
      simpa using this
     simp only[a5O] at hl
     have Hu:=τ.size_pos
     have e1:(i+(ps.length+1)) * τ.size=i * τ.size+τ.size+ps.length * τ.size:=by
      rw[a6G,a6G];omega
     rw[I4 place i _ _ x vs l (hp i) cz (by omega)]
     obtain⟨r,f2,q1,q2,q3,q4,q5⟩:=KQ h hp (l:=l.take (i * τ.size)++x.cells.toList++l.drop (i * τ.size+τ.size)) Hz M5 n2 (by
      simp[cz]
      rw[show (i+1+ps.length) * τ.size=i * τ.size+τ.size+ps.length * τ.size by rw[a6G,a6G];omega]
      omega)
     refine⟨x.cells.toList++r,f1++f2,?_,⟨_,_,f1,f2,rfl,rfl,hr,q2⟩,?_,?_,?_⟩
     .rw[q1]
      congr 2
      rw[show (i+1) * τ.size=i * τ.size+τ.size by rw[a6G];omega]
      have ht:(l.take (i * τ.size)++x.cells.toList).length=i * τ.size+τ.size:=by simp[cz];omega
      rw[<-ht,a7M,a6u]
     .simp only[a5U,a5O,a6y,cz,q3,a6G];omega
     .exact dV o2 q4 λ b hb cw=>h.jX (o3 b hb) (q5 b cw) (λ x hx y hy=>n3 x hx y hy)
     .intro b hb
      rcases a5G.1 hb with hb|hb
      .exact (o3 b hb).mono λ i hi=>by simp[hi]
      .exact (q5 b hb).mono λ i hi=>by simp[hi]
    .cases h1
   .cases h1
  .cases h1
 | [],_::_,_,_,_,_,_,hv,_,_=>hv.elim
 | _::_,[],_,_,_,_,_,hv,_,_=>hv.elim
theorem bX.X3{X Y:Nat->Prop}{w w':World}(h:bX X w w')(hXY:∀ b,X b->Y b):bX Y w w':=⟨h.os,h.tape,h.output,h.size,λ b hb hn=>h.block b hb λ hx=>hn (hXY b hx)⟩
theorem Qu(h:Inv c G s a w){ids:List Nat}{b:Nat}(hb:uL G s.ae ids b):b<w.heap.size:=(G6 h hb).2.2.1
theorem S4{lk:Nat->Option av}{τ:Ty}{v:AV}{r:τ.den×List Nat}(h:fu lk τ v=some r):v.cell=true\/∃ s x,v = .aS ⟨.st s,x⟩:=by
 cases v with
 | aS u =>
  obtain⟨aZ,x⟩:=u
  cases aZ with
  | st s=>exact .inr ⟨s,x,rfl⟩
  | _=>exact .inl rfl
 | nil=>exact .inl rfl
 | aB id=>exact .inl rfl
 | row id=>exact .inl rfl
 | _=>simp[fu] at h
theorem YM(h:Inv c G s a w){τ:Ty}{v:AV}{x:Value}{xs:List τ.den}{ids:List Nat}(ht:fu s.ae (.slice τ) v=some (xs,ids))(hv:VR c G s.ae w v x):∃ fp,Ow w (.slice τ.size (xs.map τ.aK)) [x] fp/\fp.Nodup/\∀ b∈fp,uL G s.ae ids b:=by
 rcases S4 ht with hc|⟨st,y,rfl⟩
 .exact xf h ht (hv.Py hc)
 .simp[fu,Ty.xe] at ht
theorem lH:∀ {us:List TV} {cs:List Value} {fp:List Nat},dy w (us.map TV.aK) cs fp->xG us->dy w ((us.map TI).map TV.aK) cs fp
 | [],_,_,h,_=>h
 | ⟨τ,x⟩::us,cs,fp,h,hf=>by
  obtain⟨v,r,f1,f2,rfl,rfl,h3,h4⟩:=h
  cases τ with
  | mv t =>
   have hf:Option.isSome (α:=List t.den) x=true/\xG us:=hf
   refine⟨v,r,f1,f2,rfl,rfl,?_,lH h4 hf.2⟩
   match x,hf.1,h3 with
   | some l,_,h3=>exact h3
  | ptr=>exact⟨v,r,f1,f2,rfl,rfl,h3,lH h4 hf⟩
  | int k=>exact⟨v,r,f1,f2,rfl,rfl,h3,lH h4 hf⟩
  | bool=>exact⟨v,r,f1,f2,rfl,rfl,h3,lH h4 hf⟩
  | str=>exact⟨v,r,f1,f2,rfl,rfl,h3,lH h4 hf⟩
  | slice t=>exact⟨v,r,f1,f2,rfl,rfl,h3,lH h4 hf⟩
  | st q=>exact⟨v,r,f1,f2,rfl,rfl,h3,lH h4 hf⟩
theorem GW:∀ {us:List TV} {cs:List Value} {fp:List Nat},dy w (us.map TV.aK) cs fp->(∀ u∈us,u.τ.LO=true)->dy w ((us.map P1).map TV.aK) cs []
 | [],_,_,h,_=>⟨h.1,rfl⟩
 | ⟨τ,x⟩::us,cs,fp,h,hf=>by
  obtain⟨v,r,f1,f2,rfl,rfl,h3,h4⟩:=h
  have hr:=GW h4 λ u hu=>hf u (by simp[hu])
  have sc:τ.xe=true->Ow w (τ.aK x) [v] []:=λ hs=>Ow.e9 (S:=λ _=>True) _ (tv hs x) (Ow.rd _ h3 λ _ _=>trivial)
  have hm:τ.LO=true:=hf ⟨τ,x⟩ (by simp)
  cases τ with
  | mv t =>
   refine⟨v,r,[],[],rfl,rfl,?_,hr⟩
   match x,h3 with
   | some l,h3=>obtain⟨a',cap,k1,_⟩:=h3;exact⟨⟨_,_,_,k1⟩,rfl⟩
   | none,h3=>exact⟨h3.1,rfl⟩
  | int k=>exact⟨v,r,[],[],rfl,rfl,sc rfl,hr⟩
  | bool=>exact⟨v,r,[],[],rfl,rfl,sc rfl,hr⟩
  | str=>exact⟨v,r,[],[],rfl,rfl,sc rfl,hr⟩
  | slice t=>cases hm
  | ptr=>exact⟨v,r,[],[],rfl,rfl,sc rfl,hr⟩
  | st q=>cases hm
theorem Wm(l:List Value)(k n:Nat):l.take k++(l.drop k).take n++l.drop (k+n)=l:=by
 rw[a6u,<-a8b,a7b,a7b]
theorem Inv.a2n(h:Inv c G s a w){id i:Nat}{p q:aR}{xs:List (Ty.den (.st p))}{y:p.den}{z:q.den}(aW:s.ae id=some (.aB (.st p) xs))
  (hy:p.iL ((p.cells (xs.getD i (Ty.zero (.st p)))).map P1)=some y) (hz:q.iL ((p.cells (xs.getD i (Ty.zero (.st p)))).map TI)=some z) (zF:p.uV.all Ty.LO=true)
  (a2b:xG (p.cells (xs.getD i (Ty.zero (.st p))))) {a0:Option Addr} {n cap:Nat} {l:List Value} (gQ:G.η id = .tuple (.slice a0 n cap::l).toArray) (hi:i<n) :
  ∃ G' f1 b,a0=some ⟨b,0,none⟩/\bP w b (i * p.size) ((l.drop (i * p.size)).take p.size)/\((l.drop (i * p.size)).take p.size).length=p.size/\Inv c G' (s.cD.lC id (.st p) (xs.set i y)) a w /\
   Ow w (q.aK z) ((l.drop (i * p.size)).take p.size) f1/\f1.Nodup/\Fr c G' (s.cD.lC id (.st p) (xs.set i y)).ae w f1:=by
 have hT:=h.aT.tr id _ xs aW
 obtain⟨hn,b,f,t,e1,OA,hh,jH⟩:=yW hT gQ hi
 have Jf:i<xs.length:=by omega
 have Ho:l.length=cap * p.size/\xs.length<=cap/\cap<=maxLen/\xs.length<=140737488355328:=by
  obtain⟨v0,l0,a1,Rw,k1,k2,k3,k4,k5,k6⟩:=hT
  rw[gQ] at k1
  simp only[a7h] at k1
  have k1:(Value.slice a0 n cap::l)=v0::l0:=congrArg Array.toList k1
  simp only[a5L] at k1
  obtain⟨k7,rfl⟩:=k1
  rw[k2] at k7
  simp only[a7B] at k7
  obtain⟨_,_,rfl⟩:=k7
  rcases k6 with ⟨rfl,_,_⟩|⟨_,_,_,_,_,_,k8,_⟩
  .simp at Jf
  .exact⟨k8,k3,k4,k5⟩
 have cz:∀ d∈xs.map (Ty.aK (.st p)),d.size=p.size:=FK (τ := .st p) xs
 obtain⟨f0,f1,f2,hf,m0,m1,m2⟩:=bQ.split (xs.map (Ty.aK (.st p))) i (Ty.aK (.st p) (xs.getD i (Ty.zero (.st p)))) jH cz (by simp[List.getD,Jf])
 have wB:((l.drop (i * p.size)).take p.size).length=p.size:=by rw[a6R,a6S];omega
 have m1:Ow w (.agg ((p.cells (xs.getD i (Ty.zero (.st p)))).map TV.aK)) ((l.drop (i * p.size)).take p.size) f1:=by
  have:=m1
  rwa [show Ty.aK (.st p) (xs.getD i (Ty.zero (.st p)))=p.aK (xs.getD i (Ty.zero (.st p))) from rfl,aR.cr] at this
 have hz':Ow w (q.aK z) ((l.drop (i * p.size)).take p.size) f1:=by
  rw[aR.cr,aR.oY hz]
  exact lH m1 a2b
 have Nb:Ow w (p.aK y) ((l.drop (i * p.size)).take p.size) []:=by
  rw[aR.cr,aR.oY hy]
  refine GW m1 λ u hu=>?_
  have:u.τ∈p.uV:=by rw[<-aR.uS p (xs.getD i (Ty.zero (.st p)))];exact a5K.2 ⟨u,hu,rfl⟩
  exact a6i.1 zF _ this
 have hr:=m2 w (p.aK y) _ [] (λ _ _=>rfl) wB Nb
 rw[Wm,a7a] at hr
 have dC:=h.aT.nd id _ xs aW
 rw[OA,a6m,hf] at dC
 obtain⟨BT,dC⟩:=dC
 have a5B:=dC
 rw[a5Y,a5Y] at dC
 obtain⟨⟨d0,d1,d01⟩,d2,a0v⟩:=dC
 have Xk:km w (G.η id) (.st p) (xs.set i y) (b::(f0++f2)):=by
  refine⟨_,l,a0,cap,gQ,by rw[hn,a7V],by rw[a7V];exact Ho.2.1,Ho.2.2.1,by rw[a7V];exact Ho.2.2.2, .inr ⟨b,f0++f2,t,e1,rfl,hh,Ho.1,?_⟩⟩
  rw[a8E]
  exact hr
 have Eo:∀ k∈b::(f0++f2),k∈G.φ id:=λ k hk=>by
  rw[OA,hf]
  simp only[a5P,a5G] at hk ⊢
  rcases hk with hk|hk|hk<;>simp[hk]
 have a4o:(b::(f0++f2)).Nodup:=by
  refine a6m.2 ⟨λ hk=>BT ?_,dV d0 d2 λ x hx yl=>a0v x (by simp[hx]) x yl rfl⟩
  simp only[a5G] at hk ⊢
  rcases hk with hk|hk<;>simp[hk]
 have hf1:∀ k∈f1,k∈G.φ id/\k∉b::(f0++f2):=λ k hk=>by
  refine⟨by rw[OA,hf];simp[hk],λ hm=>?_⟩
  simp only[a5P,a5G] at hm
  rcases hm with rfl|hm|hm
  .exact BT (by simp[hk])
  .exact d01 k hm k hk rfl
  .exact a0v k (by simp[hk]) k hm rfl
 obtain⟨g1,g2,g3⟩:=h.cD
 have Pa:s.cD.ae id=some (.aB (.st p) xs):=by rw[lT];simp[aW,av.de]
 let A:List (Nat×TE):=[(id,(G.η id,b::(f0++f2), .aB (.st p) (xs.set i y)))]
 have T:=D6.ofList (c:=c) (G:=G) (lk:=s.cD.ae) (w:=w) (w':=w) (A:=A) (λ e he=>by
  simp only[A,a6t] at he
  subst he
  exact⟨_,xs,_,_,l,l,Pa,rfl,gQ,gQ,Xk,a4o⟩) (λ e he k hk=>by
  simp only[A,a6t] at he
  subst he
  exact .inl ⟨_,a6t.2 rfl,Eo k hk⟩) (λ e he e' yg _ _ _=>by
  simp only[A,a6t] at he yg
  rw[he,yg]) (by simp[A]) (λ _ _ _=>rfl) rfl rfl rfl (a6b _)
 have hI:=bn.fh g1 T g2 g3
 have cu:(s.cD.lC id (.st p) (xs.set i y)).ae=S6 A s.cD.ae:=by
  funext j
  rw[oX,S7]
 refine⟨⟨G.S,CO A G,xg A G⟩,f1,b,e1,?_,wB,?_,hz',d1,?_⟩
 .have:=(bP.of_heap hh).part (i * p.size) p.size
  rwa [a6X] at this
 .unfold Inv
  rw[cu]
  exact hI
 .intro k hk
  obtain⟨k1,k2⟩:=hf1 k hk
  obtain⟨q1,q2,q3,q4⟩:=g1.aT.pl id _ xs k Pa k1
  refine⟨q1,q2,q3,λ j o hj pL=>?_,λ j τ ys hj pL=>?_⟩
  .have pL:dS (CO A G j)=some k:=pL
   rw[oX] at hj
   by_cases tN:j=id
   .subst tN
    have:CO A G j=G.η j:=by simp[CO,A,ae]
    rw[this,gQ] at pL
    cases pL
   .rw[a5J tN] at hj
    have:CO A G j=G.η j:=by
     have dU:Nat.beq id j=false:=by
      cases hb:Nat.beq id j with
      | false=>rfl
      | true=>exact absurd (a5F hb).symm tN
     simp[CO,A,ae,dU]
    rw[this] at pL
    exact q4 j o hj pL
  .have pL:k∈xg A G j:=pL
   rw[oX] at hj
   by_cases tN:j=id
   .subst tN
    have:xg A G j=b::(f0++f2):=by simp[xg,A,ae]
    rw[this] at pL
    exact k2 pL
   .rw[a5J tN] at hj
    have:xg A G j=G.φ j:=by
     have dU:Nat.beq id j=false:=by
      cases hb:Nat.beq id j with
      | false=>rfl
      | true=>exact absurd (a5F hb).symm tN
     simp[xg,A,ae,dU]
    rw[this] at pL
    exact tN (g1.aT.ap j id _ _ _ _ k hj Pa pL k1)
theorem Tq(hE:bJ c.P c.E)(h:Inv c G s a w){o:Oper}{vc:Vc}{s':af}(hq:PU c.E s o=some (vc,s'))(eJ:vc.ok){Q:Exit->Act->World->Prop} :
  o.wp c.P a w (λ a' w'=>∃ G',Inv c G' s' a' w') Q:=by
 unfold PU at hq
 split at hq
 case h_2=>cases hq
 case h_1 d hd =>
 split at hq
 case h_2=>cases hq
 case h_1 eM =>
 split at hq
 case h_4=>cases hq
 case h_1 T len parts bw =>
  split at hq
  case h_2=>cases hq
  case h_1 τ p hT =>
  obtain⟨b,e⟩:=p
  split at hq
  case h_2=>cases hq
  case h_1 hlen =>
  split at hq
  case h_2=>cases hq
  case h_1 xs ids np =>
  split at hq
  case h_2=>cases hq
  case h_1 hb rV =>
  simp only[a5E,a5H] at hq
  obtain⟨rfl,rfl⟩:=hq
  simp only[a5I] at hlen
  have Sc:=a5F hlen.1
  have hl2:=a6H hlen.2
  subst Sc
  obtain⟨h1,⟨b',e',h2⟩,i,z,h3,h4,h5,h6,h7⟩:=hE.slice hT
  have Hu:=τ.size_pos
  have Ht:τ.size<=100:=Ty.size_le τ
  have a3Z:parts.size * τ.size<=16777216:=a7T (Nat.mul_le_mul hl2 Ht) (by decide)
  obtain⟨r,fp,h8,h9,h10,h11,h12⟩:=KQ (place:=λ i=>some (i * τ.size,τ.size)) h (λ _=>rfl) (l:=((Array.range (parts.size * τ.size)).map (λ j=>((if parts.size * τ.size=0 then #[] else z.cells:Array Value)[j % (if parts.size * τ.size=0 then #[] else z.cells:Array Value).size]!))).toList) np (aN.Dc (bp h) _) (dn hb) (by simp)
  have tO:=N4 np
  simp only[a6B,a6y] at tO
  rw[tO] at h10
  simp only[a8K,a8d,a6C,a6K] at h8
  have cS:(execOp a.eval o).run c.P w = .ok (.value (.slice (some ⟨w.heap.size,0,none⟩) parts.size parts.size)) (w.alloc (.cells r.toArray e)):=by
   have e2:(parts.map λ (i,x)=>(i,a.eval x)).toList=parts.toList.map λ p=>(p.1,a.eval p.2):=by simp
   have l6:¬ (parts.size * τ.size>2 ^ 24):=by omega
   simp only[execOp,bw,Instr.buildSlice,a6d,a6x h1,a5S,hE.sizeOf h2,a5J l6,a6e]
   by_cases h0:parts.size * τ.size=0
   .simp only[h0,a7O,a6d,a6e,a5S,e2] at h8 ⊢
    rw[h8]
    simp[newRow]
   .simp only[h0,a9A,a6d,zeroValue,typeInfo,run_program,a5S,h3,h6,a6e,e2] at h8 ⊢
    rw[h8]
    simp[newRow]
  unfold Oper.wp
  rw[cS]
  show ∃ G',Inv c G' _ (a.put o.dst _) _
  rw[hd]
  have bF:∀ k∈fp,k<w.heap.size:=λ k hk=>Qu h (h12 k hk)
  have jH:bQ (w.alloc (.cells r.toArray e)) (xs.map τ.aK) r fp:=bQ.aM _ h9 λ k hk=>a9w w _ k (bF k hk)
  refine Inv.built h (zs:=xs) (fp:=w.heap.size::fp) (l:=r) ((fZ w _).X3 λ _ k=>k.elim) ⟨_,_,some ⟨w.heap.size,0,none⟩,parts.size,rfl,by rw[tO],by rw[tO];omega,by simp only[maxLen];omega,by rw[tO];omega, .inr ⟨w.heap.size,fp,e,rfl,rfl,a7f w _,h10,jH⟩⟩ ⟨_,_,_,rfl⟩ (a6m.2 ⟨λ hh=>a7W _ (bF _ hh),h11⟩) (λ k hk=>?_) rV
  rcases a5P.1 hk with rfl|hk
  .exact .inr ⟨a6b _,by simp⟩
  .exact .inl (h12 k hk)
 case h_2 T ad bw =>
  split at hq
  case h_2=>cases hq
  case h_1 q r id i sz hT hx =>
  split at hq
  case h_2=>cases hq
  case h_1 p xs aW =>
  split at hq
  case h_2=>cases hq
  case h_1 y z hb hy hz =>
  split at hq
  case h_2=>cases hq
  case h_1 DR =>
  simp only[a5E,a5H] at hq
  obtain⟨rfl,rfl⟩:=hq
  simp only[a5I] at hb DR
  have cz:=a5F hb.1
  subst cz
  have hp:=bp h ad
  rw[hx] at hp
  obtain⟨_,b,n,cap,l,gQ,hi,hp⟩:=hp
  obtain⟨G1,f1,b',e1,tJ,hlen,hI,hO,dC,hF⟩:=h.a2n aW hy hz hb.2 eJ gQ hi
  simp only[a5E,a7K,a5R] at e1
  subst e1
  have hqs:q.size=p.size:=by
   have e:=Ow.length _ hO
   rw[show (q.aK z).size=q.size from Ty.cK (.st q) z] at e
   omega
  have cS:(execOp a.eval o).run c.P w = .ok (.value (.agg ((l.drop (i * p.size)).take p.size).toArray)) w:=by
   simp only[execOp,bw,hp,a7D,a6d,nL hE hT tJ (by rw[hlen];exact hqs.symm),a5S,a6e]
   rfl
  unfold Oper.wp
  rw[cS]
  show ∃ G',Inv c G' _ (a.put o.dst _) _
  rw[hd]
  have tL:∀ e∈bS (bM d) (TV.cells ⟨.st q,z⟩),(s.cD.lC id (.st p) (xs.set i y)).ae e.1=none:=λ e he=>by
   have h0:(s.ae e.1).isNone=true:=a6i.1 DR.1 e he
   have dU:e.1≠id:=λ hh=>by rw[hh,aW] at h0;cases h0
   rw[oX,a5J dU,lT]
   show Option.map av.de (s.ae e.1)=none
   cases hl:s.ae e.1 with
   | none=>rfl
   | some o=>rw[hl] at h0;cases h0
  obtain⟨G2,lk',k1,k2,k3,k4,_⟩:=bn.PI (v:=⟨.st q,z⟩) (id:=bM d) hI ⟨_,rfl,hO⟩ dC hF tL (dn DR.2) (λ j hj=>by
   cases hr:c.R j with
   | none=>rfl
   | some v=>have:=h.ka j v hr;unfold bM at hj;omega)
  refine⟨G2,?_⟩
  have cu:af.ae { aw:=s.cD.aw.set d (kk (bM d) ⟨.st q,z⟩),aH:=bS (bM d) (q.cells z)++(s.cD.lC id (.st p) (xs.set i y)).aH }=lk':=by
   funext j
   rw[k1 j]
   exact ql _ _ j
  unfold Inv
  rw[cu,show af.sl { aw:=s.cD.aw.set d (kk (bM d) ⟨.st q,z⟩),aH:=bS (bM d) (q.cells z)++(s.cD.lC id (.st p) (xs.set i y)).aH }=lL s.cD.aw.length s.cD.sl (some d) (kk (bM d) ⟨.st q,z⟩) from rv s.cD.aw d _ _,
   show ({ aw:=s.cD.aw.set d (kk (bM d) ⟨.st q,z⟩),aH:=bS (bM d) (q.cells z)++(s.cD.lC id (.st p) (xs.set i y)).aH }:af).aw.length=s.cD.aw.length from by simp]
  exact bn.put k2 k4.hJ
 case h_3 cl bw =>
  split at hq
  case h_3=>cases hq
  case h_2 f kQ =>
   split at hq
   case h_1=>cases hq
   case h_2 fl _ _ =>
   split at hq
   case h_2=>cases hq
   case h_1 own ids ht =>
   split at hq
   case h_2=>cases hq
   case h_1 Z9 hb has =>
   split at hq
   case h_2=>cases hq
   case h_1 pre res hc =>
   split at hq
   case h_2=>cases hq
   case h_1 DR =>
   simp only[a5E,a5H] at hq
   obtain⟨rfl,rfl⟩:=hq
   simp only[a5I,a6i] at DR
   have tL:∀ p∈bm (bM d) res,(ids.foldl af.gone s).ae p.1=none:=λ p hp=>by simpa using DR.1 p hp
   have rG:=dn DR.2
   obtain⟨tK,pM⟩:=hE.HI f Z9 pre res hc eJ
   obtain⟨xm,t1,t2,t3,t4⟩:=vM h ht (dn hb) (aN.pG (bp h) _)
   have h1:Inv c G (ids.foldl af.gone s) a w:=uY ids h
   have hF:∀ b,b∈xm.flatten->uK c G (ids.foldl af.gone s).ae w b:=λ b hb=>G6 h (t4 b hb)
   obtain⟨m1,m2⟩:=tQ hE h1 has t1 t2 (aN.pG (bp h1) _)
   generalize T5:ids.foldl af.gone s=s1 at *
   unfold Oper.wp
   rw[lB bw kQ rfl tK]
   simp only[Oper.upon]
   refine (pM w (SX G s1.ae) _ xm.flatten ?_ m1 (.inr m2) t3 (λ b hb=>⟨(hF b hb).2.2.1,(hF b hb).Z1⟩)).mono ?_
   .exact h1.Vq
   .rintro e w' ⟨x,fp,rfl,hk,hO,dC,uu⟩
    have hI:=Inv.over h1 hF hk
    obtain⟨ys,xo,M9⟩:=FZ (c:=c) (id:=bM d) hO
    have VM:Fr c G s1.ae w' fp:=λ b hb=>by
     rcases uu b hb with hi|⟨q1,q2⟩
     .obtain⟨f1,f2,f3,f4,f5⟩:=hF b hi
      exact⟨f1,f2,a5Q f3 hk.size,f4,f5⟩
     .refine⟨.inl (a7T h1.aM.size q1),λ hs=>?_,q2,λ i o' hi vb=>?_,λ j τ zs hj pL=>?_⟩
      .have:=h1.dX b hs;omega
      .have:=(h1.place i o' b hi vb).2.2;omega
      .have:=(h1.aT.pl j τ zs b hj pL).2.2.1;omega
    obtain⟨G',lk',k1,k2,k3,k4,_⟩:=hI.Gp (id:=bM d) xo dC VM tL rG (λ j hj=>by
     cases hr:c.R j with
     | none=>rfl
     | some v=>have:=h.ka j v hr;unfold bM at hj;omega)
    refine⟨G',?_⟩
    have cu:af.ae { aw:=s1.aw.set d (lV (bM d) res),aH:=bm (bM d) res++s1.aH }=lk':=by
     funext i
     rw[k1 i]
     exact ql _ _ i
    unfold Inv
    rw[cu,hd,show af.sl { aw:=s1.aw.set d (lV (bM d) res),aH:=bm (bM d) res++s1.aH }=lL s1.aw.length s1.sl (some d) (lV (bM d) res) from rv s1.aw d _ _,
     show ({ aw:=s1.aw.set d (lV (bM d) res),aH:=bm (bM d) res++s1.aH }:af).aw.length=s1.aw.length from by simp]
    exact bn.put k2 (M9 G' lk' k4)
  case h_1 kQ =>
  split at hq
  case h_2=>cases hq
  case h_1 T T' Qa =>
  split at hq
  case h_2=>cases hq
  case h_1 τ b e MP hT =>
  have MP:=a5F MP
  subst MP
  split at hq
  case h_2=>cases hq
  case h_1 x y gb =>
  split at hq
  case h_2=>cases hq
  case h_1 xs i ys j hx hy =>
  split at hq
  case h_2=>cases hq
  case h_1 hb rV =>
  simp only[a5E,a5H] at hq
  obtain⟨rfl,rfl⟩:=hq
  obtain⟨v,z,e1,e2,e3⟩:=Y3 h gb
  have hb:=dn hb
  rw[a5Y] at hb
  obtain⟨n1,n2,n3⟩:=hb
  obtain⟨fx,o1,o2,o3⟩:=YM h hx e2
  obtain⟨fy,p1,p2,p3⟩:=YM h hy e3
  obtain⟨v',w',fp,l,k1,k2,k3,k4,k5,k6⟩:=PM (c:=c) (w:=w) hE hT o1 p1 (λ k hk=>Qu h (o3 k hk)) (λ k hk=>Qu h (p3 k hk)) o2 p2
   (λ k hk iR=>h.jX (o3 k hk) (p3 k iR) λ x hx y hy=>n3 x hx y hy) eJ o.type
  have Hk:cl.argTypes = #[T,T]:=by rw[<-a6K (xs:=cl.argTypes),Qa]
  have Hy:cl.args.map a.eval = #[v,z]:=by rw[<-a6K (xs:=cl.args.map a.eval),a7P,e1]
  have MY:(execOp a.eval o)=(do let d <-resolve a.eval cl o.type;invoke d.target d.args):=by simp[execOp,bw]
  have Kv:(execOp a.eval o).run c.P w=((Builtin.append_ #[T,T] o.type #[v,z]).run c.P w).andThen λ v w => .ok (.value v) w:=by
   rw[MY]
   simp[resolve,kQ,invoke,builtin,Hk,Hy]
  unfold Oper.wp
  rw[Kv,k1]
  show ∃ G',Inv c G' _ (a.put o.dst _) _
  rw[hd]
  refine Inv.built h (zs:=xs++ys) (fp:=fp) (l:=l) (k6.X3 λ k hk=>(o3 k hk).mono λ i hi=>by simp[hi]) k2 k3 k4 (λ k hk=>?_) rV
  rcases k5 k hk with hk|hk|hk
  .exact .inl ((o3 k hk).mono λ i hi=>by simp[hi])
  .exact .inl ((p3 k hk).mono λ i hi=>by simp[hi])
  .exact .inr hk
end
end Go.Proofs.YtnehkikdlnmebaaGreatDoor

namespace Go.Proofs.YtnehkikdlnmebaaGreatDoor
def a2y:Value->Nat
 | .pointer (some a)=>a.block
 | _=>0
def oa(G:Gh)(m:List (Nat×Nat))(k:Nat):Nat:=match ae m k with
 | some id=>a2y (G.η id)
 | none=>0
def mQ(m m':List (Nat×Nat)):Prop:=∀ k id,ae m k=some id->ae m' k=some id
theorem mQ.refl(m:List (Nat×Nat)):mQ m m:=λ _ _ h=>h
theorem mQ.trans{a b c:List (Nat×Nat)}(h:mQ a b)(k:mQ b c):mQ a c:=λ i id q=>k i id (h i id q)
theorem qm{α:Type}(k:Nat)(o:α)(l:List (Nat×α))(j:Nat):ae ((k,o)::l) j=if j=k then some o else ae l j:=by
 have e:ae ((k,o)::l) j=match Nat.beq k j with
  | true=>some o
  | false=>ae l j:=rfl
 rw[e]
 cases hb:Nat.beq k j with
 | true=>rw[a5T (a5F hb).symm]
 | false=>rw[a5J (λ e=>by subst e;rw[a9j] at hb;cases hb)]
theorem MB{m:List (Nat×Nat)}{k id:Nat}(h:ae m k=none):mQ m ((k,id)::m):=λ i j q=>by
 rw[qm]
 by_cases hi:i=k
 .subst hi;rw[h] at q;cases q
 .rw[a5J hi];exact q
theorem Np{m:List (Nat×Nat)}{k id:Nat}:ae ((k,id)::m) k=some id:=by rw[qm,a5T rfl]
section
variable {c:Ctx} {G:Gh} {s:af} {a:Act} {w w':World}
theorem WQ{lk:Nat->Option av}{τ:Ty}{v:AV}{x:Value}{y:τ.den}(h:lF (λ _=>none) τ v=some y)(hv:C1 c G lk w v x):Rd w G.S (τ.aK y) [x]:=LG h hv
theorem pH{sl:Nat->AV}{n:Nat}{lk:Nat->Option av}(h:bn c G sl n lk a w):∀ {ks:List CK} {cs:List AV} {m m':List (Nat×Nat)} {ds:List TV} {ids:List Nat} {l:List Value},dc lk ks cs m=some (ds,ids,m')->ids.Nodup->aN (C1 c G lk w) cs l ->
  mQ m m'/\∃ fp,(∀ mf,mQ m' mf->mP w G.S (oa G mf) ks ds l fp)/\fp.Nodup/\∀ b∈fp,uL G lk ids b
 | [],[],m,m',ds,ids,l,ht,_,hv=>by
  simp only[dc,a5E,a5H] at ht
  obtain⟨rfl,rfl,rfl⟩:=ht
  match l,hv with
  | [],_=>exact⟨mQ.refl _,[],λ _ _=>rfl,a6T,by simp⟩
 | .d τ::ks,v::cs,m,m',ds,ids,l,ht,hn,hv=>by
  simp only[dc] at ht
  split at ht
  case h_2=>cases ht
  case h_1 y hy Ao =>
  split at ht
  case h_2=>cases ht
  case h_1 ds1 Sl m1 hr =>
  simp only[a5E,a5H] at ht
  obtain⟨rfl,rfl,rfl⟩:=ht
  match l,hv with
  | x::l,hv =>
   obtain⟨e1,fp,e2,e3,e4⟩:=pH h hr hn hv.2
   exact⟨e1,fp,λ mf hm=>⟨⟨rfl,Ao,WQ hy hv.1⟩,e2 mf hm⟩,e3,e4⟩
 | .o τ::ks,v::cs,m,m',ds,ids,l,ht,hn,hv=>by
  simp only[dc] at ht
  split at ht
  case h_2=>cases ht
  case h_1 y i hy Ao =>
  split at ht
  case h_2=>cases ht
  case h_1 ds1 Sl m1 hr =>
  simp only[a5E,a5H] at ht
  obtain⟨rfl,rfl,rfl⟩:=ht
  rw[a5Y] at hn
  obtain⟨n1,n2,n3⟩:=hn
  match l,hv with
  | x::l,hv =>
   obtain⟨e1,fp,e2,e3,e4⟩:=pH h hr n2 hv.2
   obtain⟨f1,o1,o2,o3⟩:=xf h hy hv.1
   refine⟨e1,f1++fp,λ mf hm=>⟨f1,fp,rfl,⟨rfl,Ao,o1⟩,e2 mf hm⟩,dV o2 e3 λ b hb cw=>h.jX (o3 b hb) (e4 b cw) λ x hx y hy=>n3 x hx y hy,λ b hb=>?_⟩
   rcases a5G.1 hb with hb|hb
   .exact (o3 b hb).mono λ k hk=>by simp[hk]
   .exact (e4 b hb).mono λ k hk=>by simp[hk]
 | .p j::ks,v::cs,m,m',ds,ids,l,ht,hn,hv=>by
  simp only[dc] at ht
  split at ht
  case h_2=>cases ht
  case h_1 id =>
  match l,hv with
  | x::l,hv =>
   have key:∀ m1,dc lk ks cs m1=some (ds,ids,m')->mQ m m1->ae m1 j=some id->mQ m m'/\∃ fp,(∀ mf,mQ m' mf->mP w G.S (oa G mf) (.p j::ks) ds (x::l) fp)/\fp.Nodup/\∀ b∈fp,uL G lk ids b:=λ m1 hr hx hj=>by
    obtain⟨e1,fp,e2,e3,e4⟩:=pH h hr hn hv.2
    refine⟨hx.trans e1,fp,λ mf hm=>?_,e3,e4⟩
    have hv1:C1 c G lk w (.ptr id 0) x:=hv.1
    obtain⟨b,h1,h2,_⟩:=hv1
    have:oa G mf j=b:=by
     simp only[oa,hm j id (e1 j id hj),h1]
     rfl
    cases ds with
    | nil=>exact⟨by rw[this];exact h2,e2 mf hm⟩
    | cons d ds=>exact⟨by rw[this];exact h2,e2 mf hm⟩
   split at ht
   .rename_i i hi
    split at ht
    .rename_i hb
     have hb:=a5F hb
     subst hb
     exact key m ht (mQ.refl _) hi
    .cases ht
   .rename_i l6
    exact key _ ht (MB l6) Np
 | [],_::_,_,_,_,_,_,ht,_,_=>by simp[dc] at ht
 | .d _::_,[],_,_,_,_,_,ht,_,_=>by simp[dc] at ht
 | .o _::_,[],_,_,_,_,_,ht,_,_=>by simp[dc] at ht
 | .p _::_,[],_,_,_,_,_,ht,_,_=>by simp[dc] at ht
def a1t(lk:Nat->Option av)(m:List (Nat×Nat))(k0 n:Nat):Prop:=∀ k,k0<=k->k<k0+n->∃ id cs,ae m k=some id/\lk id=some (.box cs)
theorem tZ{sl:Nat->AV}{n:Nat}{lk:Nat->Option av}(h:bn c G sl n lk a w):∀ {sh:List (List CK)} {k:Nat} {m m':List (Nat×Nat)} {bO:List (List TV)} {ids:List Nat},jZ lk sh k m=some (bO,ids,m')->ids.Nodup ->
  mQ m m'/\a1t lk m' k sh.length/\∃ fp,(∀ mf,mQ m' mf->kc w G.S (oa G mf) k sh bO fp)/\fp.Nodup/\∀ b∈fp,uL G lk ids b
 | [],k,m,m',bO,ids,ht,_=>by
  simp only[jZ,a5E,a5H] at ht
  obtain⟨rfl,rfl,rfl⟩:=ht
  exact⟨mQ.refl _,λ j h1 h2=>by simp at h2;omega,[],λ _ _=>rfl,a6T,by simp⟩
 | ks::sh,k,m,m',bO,ids,ht,hn=>by
  simp only[jZ] at ht
  split at ht
  case h_2=>cases ht
  case h_1 id aW =>
  split at ht
  case h_2=>cases ht
  case h_1 cs mD =>
  split at ht
  case h_2=>cases ht
  case h_1 ds i m1 hr =>
  split at ht
  case h_2=>cases ht
  case h_1 a3A Sl m2 DT =>
  simp only[a5E,a5H] at ht
  obtain⟨rfl,rfl,rfl⟩:=ht
  rw[a5Y] at hn
  obtain⟨n1,n2,n3⟩:=hn
  obtain⟨b,l,t,q1,q2,q3⟩:=h.aH id _ mD
  obtain⟨e1,f1,e2,e3,e4⟩:=pH h hr n1 q3
  obtain⟨g1,g0,f2,g2,g3,g4⟩:=tZ h DT n2
  refine⟨e1.trans g1,λ j h1 h2=>?_,f1++f2,λ mf hm=>⟨l,t,f1,f2,rfl,?_,e2 mf (g1.trans hm),g2 mf hm⟩,dV e3 g3 λ b hb cw=>h.jX (e4 b hb) (g4 b cw) λ x hx y hy=>n3 x hx y hy,λ b hb=>?_⟩
  .by_cases hj:j=k
   .subst hj
    exact⟨id,cs,(e1.trans g1) j id aW,mD⟩
   .exact g0 j (by omega) (by simp at h2;omega)
  .have:oa G mf k=b:=by
    simp only[oa,hm k id ((e1.trans g1) k id aW),q1]
    rfl
   rw[this]
   exact q2
  .rcases a5G.1 hb with hb|hb
   .exact (e4 b hb).mono λ k hk=>by simp[hk]
   .exact (g4 b hb).mono λ k hk=>by simp[hk]
theorem uQ:∀ {fl:List (Option Nat)} {vs:List AV} {m m':List (Nat×Nat)},kp fl vs m=some m'->mQ m m'/\∀ (i k:Nat),fl[i]?=some (some k)->∃ id,vs[i]?=some (AV.ptr id 0)/\ae m' k=some id
 | [],[],m,m',h=>by
  simp only[kp,a5E] at h
  subst h
  exact⟨mQ.refl _,λ i k q=>by simp at q⟩
 | none::fl,v::vs,m,m',h=>by
  obtain⟨h1,h2⟩:=uQ (fl:=fl) (vs:=vs) h
  refine⟨h1,λ i k q=>?_⟩
  cases i with
  | zero=>simp at q
  | succ i=>exact h2 i k (by simpa using q)
 | some k::fl,v::vs,m,m',h=>by
  simp only[kp] at h
  split at h
  case h_2=>cases h
  case h_1 id =>
  have key:∀ m1,mQ m m1->ae m1 k=some id->kp fl vs m1=some m'->mQ m m'/\∀ (i k':Nat),(some k::fl)[i]?=some (some k')->∃ dD,(AV.ptr id 0::vs)[i]?=some (AV.ptr dD 0)/\ae m' k'=some dD:=λ m1 e1 e2 e3=>by
   obtain⟨h1,h2⟩:=uQ e3
   refine⟨e1.trans h1,λ i k' q=>?_⟩
   cases i with
   | zero =>
    simp only[a8G,a5E] at q
    subst q
    exact⟨id,rfl,h1 k id e2⟩
   | succ i=>exact h2 i k' (by simpa using q)
  split at h
  .rename_i i hi
   split at h
   .rename_i hb
    have hb:=a5F hb
    subst hb
    exact key m (mQ.refl _) hi h
   .cases h
  .rename_i l6
   exact key _ (MB l6) Np h
 | [],_::_,_,_,h=>by simp[kp] at h
 | some _::_,[],_,_,h=>by simp[kp] at h
 | none::_,[],_,_,h=>by simp[kp] at h
theorem qo{lk:Nat->Option av}{ids:List Nat}{id:Nat}{o:av}(h:xx lk ids id=some o):lk id=some o/\id∉ids/\∃ cs,o = .box cs:=by
 unfold xx at h
 split at h
 .cases h
 .rename_i hc
  split at h
  .rename_i cs mD
   simp only[a5E] at h
   subst h
   exact⟨mD,by simpa using hc,cs,rfl⟩
  .cases h
theorem Wg(h1:Inv c G s a w){ids:List Nat}{X:Nat->Prop}(MQ:∀ b,X b->¬ St c G.S b)(BS:∀ id cs b,xx s.ae ids id=some (.box cs)->dS (G.η id)=some b->¬ X b)
  {τ:Ty} {v:AV} {x:Value} {y:τ.den} (hy:deref (xx s.ae ids) τ v=some y) (hx:VR c G s.ae w v x) (B:Nat->Nat):Rh w G.S X B (.ref ⟨τ,y⟩) x:=by
 have hd:=BD (S:=G.S) h1 (lk':=xx s.ae ids) (λ id o ho=>(qo ho).1) (λ τ v x y h hv=>xH (λ id e τ xs q=>by obtain⟨_,_,cs,e⟩:=qo q;cases e) (λ id τ xs q=>by obtain⟨_,_,cs,e⟩:=qo q;cases e) h hv) hy hx
 obtain⟨b,o,cs,k1,k2,k3,k4⟩:=hd
 refine⟨b,o,cs,k1,k2,?_,k3,k4⟩
 unfold deref at hy
 split at hy
 case h_2=>cases hy
 case h_1 u hu =>
 cases v with
 | fX z =>
  obtain⟨b',o',dJ,q1,q2,_⟩:=hx
  rw[k1] at q1
  simp only[a8B,a5E,a7K] at q1
  obtain⟨rfl,_⟩:=q1
  exact λ hb=>MQ _ hb q2
 | ptr id off =>
  obtain⟨b',q1,q2,_⟩:=hx
  rw[k1] at q2
  simp only[a8B,a5E,a7K] at q2
  obtain⟨rfl,_⟩:=q2
  simp only[sG] at hu
  split at hu
  .rename_i PV mD
   exact BS id PV _ mD (by rw[q1];rfl)
  .cases hu
 | ei id i off =>
  simp only[sG] at hu
  split at hu
  .rename_i hr
   obtain⟨_,_,cs,e⟩:=qo hr
   cases e
  .cases hu
 | _=>simp[sG] at hu
theorem CG(hE:bJ c.P c.E)(h1:Inv c G s a w){ids:List Nat}{mf:List (Nat×Nat)}{X:Nat->Prop}(MQ:∀ b,X b->¬ St c G.S b)(BS:∀ id cs b,xx s.ae ids id=some (.box cs)->dS (G.η id)=some b->¬ X b){lk0:Nat->Option av} :
  ∀ {fl:List (Option Nat)} {Ts:List TypeId} {vs Rb:List AV} {xs:List Value} {Z9:List Arg},sB c.E (xx s.ae ids) fl Ts vs=some Z9->aN (VR c G s.ae w) vs xs->aN (VR c G lk0 w) Rb xs ->
   (∀ (i k:Nat),fl[i]?=some (some k)->∃ id,Rb[i]?=some (AV.ptr id 0)/\ae mf k=some id)->aN (Rh w G.S X (oa G mf)) Z9 xs
 | [],[],[],Rb,xs,Z9,h,hv,_,_=>by
  simp only[sB,a5E] at h
  subst h
  match xs,hv with
  | [],_=>trivial
 | some k::fl,T::Ts,v::vs,Rb,xs,Z9,h,hv,Hx,hb=>by
  simp only[sB] at h
  split at h
  case h_2=>cases h
  case h_1 r hr =>
  simp only[a5E] at h
  subst h
  match xs,Rb,hv,Hx with
  | x::xs,v0::Rb,hv,Hx =>
   obtain⟨id,q1,q2⟩:=hb 0 k rfl
   simp only[a8G,a5E] at q1
   subst q1
   have hp:VR c G lk0 w (.ptr id 0) x:=Hx.1
   obtain⟨b,k1,k2,_⟩:=hp
   refine⟨?_,CG hE h1 MQ BS hr hv.2 Hx.2 λ i k' q=>by simpa using hb (i+1) k' (by simpa using q)⟩
   show x = .pointer (some ⟨oa G mf k,0,none⟩)
   simp only[oa,q2,k1]
   exact k2
  | x::xs,[],_,Hx=>exact Hx.elim
 | none::fl,T::Ts,v::vs,Rb,xs,Z9,h,hv,Hx,hb=>by
  simp only[sB] at h
  split at h
  case h_2=>cases h
  case h_1 z hz =>
  split at h
  case h_2=>cases h
  case h_1 r K8 hr =>
  simp only[a5E] at h
  subst h
  match xs,Rb,hv,Hx with
  | x::xs,v0::Rb,hv,Hx =>
   refine⟨?_,CG hE h1 MQ BS hr hv.2 Hx.2 λ i k' q=>by simpa using hb (i+1) k' (by simpa using q)⟩
   have a4q:∀ id e τ xs,xx s.ae ids id≠some (.row e τ xs):=λ id e τ xs q=>by obtain⟨_,_,cs,e⟩:=qo q;cases e
   have a4r:∀ id τ xs,xx s.ae ids id≠some (.aB τ xs):=λ id τ xs q=>by obtain⟨_,_,cs,e⟩:=qo q;cases e
   unfold L9 at hz
   split at hz
   .rename_i τ q hT
    split at hz
    .rename_i y hy
     simp only[a5E] at hz
     subst hz
     exact xH a4q a4r hy hv.1
    .cases hz
   .split at hz
    .rename_i τ hT
     split at hz
     .rename_i y hy
      simp only[a5E] at hz
      subst hz
      exact Wg h1 MQ BS hy hv.1 _
     .cases hz
    .split at hz
     .simp only[a5E] at hz
      subst hz
      cases K8
     .split at hz
      .rename_i f
       simp only[a5E] at hz
       subst hz
       exact hv.1
      .cases hz
  | x::xs,[],_,Hx=>exact Hx.elim
 | [],_::_,_,_,_,_,h,_,_,_=>by simp[sB] at h
 | [],[],_::_,_,_,_,h,_,_,_=>by simp[sB] at h
 | some _::_,[],_,_,_,_,h,_,_,_=>by simp[sB] at h
 | none::_,[],_,_,_,_,h,_,_,_=>by simp[sB] at h
 | some _::_,_::_,[],_,_,_,h,_,_,_=>by simp[sB] at h
 | none::_,_::_,[],_,_,_,h,_,_,_=>by simp[sB] at h
def dH:List CK->List TV->List TV
 | .d _::ks,_::ds=>dH ks ds
 | .o _::ks,v::ds=>v::dH ks ds
 | .p _::ks,ds=>dH ks ds
 | _,_=>[]
def mL:List CK->List Value->List Value
 | .o _::ks,x::xs=>x::mL ks xs
 | _::ks,_::xs=>mL ks xs
 | _,_=>[]
theorem mP.uo{S:Nat->Prop}{B:Nat->Nat}:∀ {ks:List CK} {ds:List TV} {l:List Value} {fp:List Nat},mP w S B ks ds l fp->dy w ((dH ks ds).map TV.aK) (mL ks l) fp/\(∀ u∈dH ks ds,u.τ.agg=false)/\(dH ks ds).length=(mL ks l).length
 | [],[],[],fp,h=>⟨⟨rfl,h⟩,by simp[dH],rfl⟩
 | .d τ::ks,v::ds,x::xs,fp,h=>by
  obtain⟨_,h2⟩:=h
  obtain⟨k1,k2,k3⟩:=mP.uo h2
  exact⟨k1,k2,k3⟩
 | .o τ::ks,v::ds,x::xs,fp,h=>by
  obtain⟨f1,f2,rfl,⟨e,h1,h2⟩,h3⟩:=h
  obtain⟨k1,k2,k3⟩:=mP.uo h3
  refine⟨⟨x,mL ks xs,f1,f2,rfl,rfl,h2,k1⟩,λ u hu=>?_,by simp[dH,mL,k3]⟩
  rcases a5P.1 hu with rfl|hu
  .rw[e];exact h1
  .exact k2 u hu
 | .p j::ks,ds,x::xs,fp,h=>by
  have h:x = .pointer (some ⟨B j,0,none⟩)/\mP w S B ks ds xs fp:=by cases ds<;>exact h
  obtain⟨k1,k2,k3⟩:=mP.uo h.2
  refine⟨?_,?_,?_⟩<;>cases ds<;>first|exact k1|exact k2|exact k3
 | [],_::_,_,_,h=>h.elim
 | [],[],_::_,_,h=>h.elim
 | .d _::_,[],_,_,h=>by cases h
 | .o _::_,[],_,_,h=>by cases h
 | .d _::_,_::_,[],_,h=>by cases h
 | .o _::_,_::_,[],_,h=>by cases h
 | .p _::_,ds,[],_,h=>by cases ds<;>cases h
theorem AQ:∀ (n:Nat) (a b:List TV),bS n (a++b)=bS n a++bS (n+a.length) b
 | n,[],b=>by simp[bS]
 | n,u::a,b=>by
  have:=AQ (n+1) a b
  simp only[a7g,bS,this,a6u,a5O]
  rw[show n+1+a.length=n+(a.length+1) by omega]
theorem sx:∀ (n:Nat) (a b:List TV),ca n (a++b)=ca n a++ca (n+a.length) b
 | n,[],b=>by simp[ca]
 | n,u::a,b=>by
  have:=sx (n+1) a b
  simp only[a7g,ca,this,a5O]
  rw[show n+1+a.length=n+(a.length+1) by omega]
theorem dy.append:∀ {a b:List D} {x y:List Value} {f g:List Nat},dy w a x f->dy w b y g->dy w (a++b) (x++y) (f++g)
 | [],b,x,y,f,g,h,k=>by
  obtain⟨rfl,rfl⟩:=h
  exact k
 | d::a,b,x,y,f,g,h,k=>by
  obtain⟨v,r,f1,f2,rfl,rfl,h3,h4⟩:=h
  exact⟨v,r++y,f1,f2++g,rfl,by simp,h3,h4.append k⟩
theorem rq{m:List (Nat×Nat)}{S:Nat->Prop}{B:Nat->Nat}{G':Gh}{lk':Nat->Option av}(hS:∀ b,S b->G'.S b)(hB:∀ j id,ae m j=some id->G'.η id = .pointer (some ⟨B j,0,none⟩)/\gG (lk' id)=true) :
  ∀ {ks:List CK} {cs:List AV} {ds:List TV} {n n':Nat} {r:List AV} {os:List (Nat×av)} {l:List Value} {fp:List Nat},bV m ks cs ds n=some (r,os,n')->mP w S B ks ds l fp->aN (C1 c G' lk' w) (ca n (dH ks ds)) (mL ks l) ->
   aN (C1 c G' lk' w) r l
 | [],[],[],n,n',r,os,l,fp,h,hb,hc=>by
  simp only[bV,a5E,a5H] at h
  obtain⟨rfl,rfl,rfl⟩:=h
  match l,hb with
  | [],_=>trivial
 | .d τ::ks,c0::cs,v::ds,n,n',r,os,l,fp,h,hb,hc=>by
  simp only[bV] at h
  split at h
  case h_2=>cases h
  case h_1 hv =>
  split at h
  case h_2=>cases h
  case h_1 r1 SE n1 hr =>
  simp only[a5E,a5H] at h
  obtain⟨rfl,rfl,rfl⟩:=h
  match l,hb with
  | x::l,hb =>
   obtain⟨⟨e,h1,h2⟩,h3⟩:=hb
   exact⟨⟨by rw[e];exact h1,Rd.aM hS (λ _ _=>rfl) _ h2⟩,rq hS hB hr h3 hc⟩
 | .o τ::ks,c0::cs,v::ds,n,n',r,os,l,fp,h,hb,hc=>by
  simp only[bV] at h
  split at h
  case h_2=>cases h
  case h_1 hv =>
  split at h
  case h_2=>cases h
  case h_1 r1 SE n1 hr =>
  simp only[a5E,a5H] at h
  obtain⟨rfl,rfl,rfl⟩:=h
  match l,hb with
  | x::l,hb =>
   obtain⟨f1,f2,rfl,⟨e,h1,h2⟩,h3⟩:=hb
   exact⟨hc.1,rq hS hB hr h3 hc.2⟩
 | .p j::ks,c0::cs,ds,n,n',r,os,l,fp,h,hb,hc=>by
  simp only[bV] at h
  split at h
  case h_2=>cases h
  case h_1 id =>
  split at h
  case h_2=>cases h
  case h_1 i hi =>
  split at h
  case h_2=>cases h
  case h_1 r1 SE n1 Xn hr =>
  have Xn:=a5F Xn
  subst Xn
  simp only[a5E,a5H] at h
  obtain⟨rfl,rfl,rfl⟩:=h
  match l,hb with
  | x::l,hb =>
   have hb:x = .pointer (some ⟨B j,0,none⟩)/\mP w S B ks ds l fp:=by cases ds<;>exact hb
   have hc:aN (C1 c G' lk' w) (ca n (dH ks ds)) (mL ks l):=by cases ds<;>exact hc
   obtain⟨q1,q2⟩:=hB j i hi
   exact⟨⟨B j,q1,hb.1,q2⟩,rq hS hB hr hb.2 hc⟩
  | [],hb=>cases ds<;>cases hb
 | [],_::_,_,_,_,_,_,_,_,h,_,_=>by simp[bV] at h
 | [],[],_::_,_,_,_,_,_,_,h,_,_=>by simp[bV] at h
 | .d _::_,[],_,_,_,_,_,_,_,h,_,_=>by simp[bV] at h
 | .o _::_,[],_,_,_,_,_,_,_,h,_,_=>by simp[bV] at h
 | .p _::_,[],ds,_,_,_,_,_,_,h,_,_=>by cases ds<;>simp[bV] at h
 | .d _::_,_::_,[],_,_,_,_,_,_,h,_,_=>by simp[bV] at h
 | .o _::_,_::_,[],_,_,_,_,_,_,h,_,_=>by simp[bV] at h
theorem uA{m:List (Nat×Nat)}:∀ {ks:List CK} {cs:List AV} {ds:List TV} {n n':Nat} {r:List AV} {os:List (Nat×av)},bV m ks cs ds n=some (r,os,n')->os=bS n (dH ks ds)/\n'=n+(dH ks ds).length
 | [],[],[],n,n',r,os,h=>by
  simp only[bV,a5E,a5H] at h
  obtain⟨rfl,rfl,rfl⟩:=h
  exact⟨rfl,rfl⟩
 | .d τ::ks,c0::cs,v::ds,n,n',r,os,h=>by
  simp only[bV] at h
  split at h
  case h_2=>cases h
  case h_1 hv =>
  split at h
  case h_2=>cases h
  case h_1 r1 SE n1 hr =>
  simp only[a5E,a5H] at h
  obtain⟨rfl,rfl,rfl⟩:=h
  obtain⟨e1,e2⟩:=uA hr
  exact⟨e1,e2⟩
 | .o τ::ks,c0::cs,v::ds,n,n',r,os,h=>by
  simp only[bV] at h
  split at h
  case h_2=>cases h
  case h_1 hv =>
  split at h
  case h_2=>cases h
  case h_1 r1 SE n1 hr =>
  simp only[a5E,a5H] at h
  obtain⟨rfl,rfl,rfl⟩:=h
  obtain⟨e1,e2⟩:=uA hr
  exact⟨by rw[e1];rfl,by rw[e2];simp[dH];omega⟩
 | .p j::ks,c0::cs,ds,n,n',r,os,h=>by
  simp only[bV] at h
  split at h
  case h_2=>cases h
  case h_1 id =>
  split at h
  case h_2=>cases h
  case h_1 i hi =>
  split at h
  case h_2=>cases h
  case h_1 r1 SE n1 Xn hr =>
  simp only[a5E,a5H] at h
  obtain⟨rfl,rfl,rfl⟩:=h
  obtain⟨e1,e2⟩:=uA hr
  cases ds<;>exact⟨e1,e2⟩
 | [],_::_,_,_,_,_,_,h=>by simp[bV] at h
 | [],[],_::_,_,_,_,_,h=>by simp[bV] at h
 | .d _::_,[],_,_,_,_,_,h=>by simp[bV] at h
 | .o _::_,[],_,_,_,_,_,h=>by simp[bV] at h
 | .p _::_,[],ds,_,_,_,_,h=>by cases ds<;>simp[bV] at h
 | .d _::_,_::_,[],_,_,_,_,h=>by simp[bV] at h
 | .o _::_,_::_,[],_,_,_,_,h=>by simp[bV] at h
theorem Inv.Y2{s1:af}(h1:Inv c G s1 a w){S' X:Nat->Prop}{Cm:Nat->Option av}(hk:bX X w w')(hX:∀ b,X b->c.w0.heap.size<=b\/c.X b)(hXS:∀ b,X b->¬ G.S b)
  (hS:∀ b,G.S b->S' b) (RY:∀ b,S' b->b<w'.heap.size) (TP:∀ b,b<w.heap.size->¬ X b->(S' b↔G.S b))
  (mT:∀ id,(Cm id=s1.ae id/\∀ o b,s1.ae id=some o->dS (G.η id)=some b->¬ X b) \/
   ∃ cs dJ,s1.ae id=some (.box cs)/\Cm id=some (.box dJ)/\(∀ b,dS (G.η id)=some b->¬ S' b)/\∃ b l t,G.η id = .pointer (some ⟨b,0,none⟩)/\w'.heap[b]?=some (.cells l.toArray t (0,0))/\∀ (G:Gh) (lk:Nat->Option av),aN (C1 c G lk w') dJ l)
  (vj:∀ id τ xs b,s1.ae id=some (.aB τ xs)->b∈G.φ id->¬ X b):bn c ⟨S',G.η,G.φ⟩ s1.sl s1.aw.length Cm a w':=by
 have gd:∀ id,er (s1.ae id) (Cm id):=λ id=>by
  rcases mT id with ⟨e,_⟩|⟨cs,dJ,e1,e2,_⟩
  .rw[e];exact er.refl _
  .rw[e1,e2];exact⟨λ _=>rfl,(λ e τ xs q=>by cases q),(λ q=>by cases q),λ q=>by cases q⟩
 have cp:∀ b,St c G.S b->w'.heap[b]?=w.heap[b]?:=λ b hb=>by
  rcases hb with hb|hb
  .exact hk.block b (h1.dX b hb) λ q=>hXS b q hb
  .exact hk.block b (a5Q hb.1 h1.aM.size) λ q=>(hX b q).elim (λ q=>by omega) hb.2.1
 have hold:∀ id o,Cm id=some o->∃ o',s1.ae id=some o'/\(∀ τ xs,o = .aB τ xs->o' = .aB τ xs):=λ id o ho=>by
  rcases mT id with ⟨e,_⟩|⟨cs,dJ,e1,e2,_⟩
  .exact⟨o,by rw[<-e];exact ho,λ τ xs q=>q⟩
  .rw[e2] at ho
   simp only[a5E] at ho
   exact⟨_,e1,λ τ xs q=>by rw[q] at ho;cases ho⟩
 have A7:∀ id τ xs,Cm id=some (.aB τ xs)->s1.ae id=some (.aB τ xs):=λ id τ xs ht=>by
  obtain⟨o',q1,q2⟩:=hold id _ ht
  rw[q1,q2 τ xs rfl]
 exact {
  defers:=h1.defers,size:=h1.size
  aM:=h1.aM.trans hk λ i hi hy=>(hX i hy).elim (λ q=>by omega) id
  mO:=h1.mO
  eF:=λ b hb hx=>(TP b (a5Q hb h1.aM.size) λ q=>(hX b q).elim (λ q=>by omega) hx).trans (h1.eF b hb hx)
  sX:=λ b hb=>hS b (h1.sX b hb)
  dX:=RY
  aw:=λ i=>(h1.aw i).mono (λ id _=>⟨gd id,rfl⟩) hS cp
  aH:=λ id o ho=>by
   rcases mT id with ⟨e,e'⟩|⟨cs,dJ,e1,e2,_,b,l,t,e3,e4,e5⟩
   .rw[e] at ho
    exact (h1.aH id o ho).mono rfl (λ b hb=>hk.block b (h1.place id o b ho hb).2.2 (e' o b ho hb)) (λ j _=>⟨gd j,rfl⟩) hS cp
   .rw[e2] at ho
    simp only[a5E] at ho
    subst ho
    exact⟨b,l,t,e3,e4,e5 _ _⟩
  place:=λ id o b ho hb=>by
   obtain⟨o',q1,_⟩:=hold id o ho
   obtain⟨p1,p2,p3⟩:=h1.place id o' b q1 hb
   refine⟨p1,?_,a5Q p3 hk.size⟩
   rcases mT id with ⟨e,e'⟩|⟨cs,dJ,e1,e2,e3,_⟩
   .exact λ q=>p2 ((TP b p3 (e' o' b q1 hb)).1 q)
   .exact e3 b hb
  apart:=λ id dD o o' b ho cM hb cw=>by
   obtain⟨p,q1,_⟩:=hold id o ho
   obtain⟨p',q2,_⟩:=hold dD o' cM
   exact h1.apart id dD p p' b q1 q2 hb cw
  aT:={
   tr:=λ id τ xs ht=>(h1.aT.tr id τ xs (A7 id τ xs ht)).aM λ b hb=>hk.block b (h1.aT.pl id τ xs b (A7 id τ xs ht) hb).2.2.1 (vj id τ xs b (A7 id τ xs ht) hb)
   nd:=λ id τ xs ht=>h1.aT.nd id τ xs (A7 id τ xs ht)
   pl:=λ id τ xs b ht hb=>by
    obtain⟨p1,p2,p3,p4⟩:=h1.aT.pl id τ xs b (A7 id τ xs ht) hb
    refine⟨p1,λ q=>p2 ((TP b p3 (vj id τ xs b (A7 id τ xs ht) hb)).1 q),a5Q p3 hk.size,λ i o ho=>?_⟩
    obtain⟨o',q1,_⟩:=hold i o ho
    exact p4 i o' q1
   ap:=λ id dD τ aZ xs cX b ht T7=>h1.aT.ap id dD τ aZ xs cX b (A7 id τ xs ht) (A7 dD aZ cX T7) }
  root:=λ id v hr ht=>h1.root id v hr (by
   match hl:Cm id,ht with
   | some (.aB τ xs),_=>rw[A7 id τ xs hl];rfl)
  ka:=h1.ka
  dF:=λ id v hr ht=>h1.dF id v hr (by
   rcases mT id with ⟨e,_⟩|⟨cs,dJ,e1,e2,_⟩
   .rw[<-e];exact ht
   .rw[e1];rfl)
  fJ:=h1.fJ }
theorem bn.a4E{sl:Nat->AV}{n:Nat}{lk lk2:Nat->Option av}(h:bn c G sl n lk a w)(mT:∀ id,lk2 id=lk id\/∃ cs dJ,lk id=some (.box cs)/\lk2 id=some (.box dJ)/\∃ b l t,G.η id = .pointer (some ⟨b,0,none⟩)/\w.heap[b]?=some (.cells l.toArray t (0,0))/\aN (C1 c G lk2 w) dJ l) :
  bn c G sl n lk2 a w:=by
 have gd:∀ id,er (lk id) (lk2 id):=λ id=>by
  rcases mT id with e|⟨cs,dJ,e1,e2,_⟩
  .rw[e];exact er.refl _
  .rw[e1,e2];exact⟨λ _=>rfl,(λ e τ xs q=>by cases q),(λ q=>by cases q),λ q=>by cases q⟩
 have hold:∀ id o,lk2 id=some o->∃ o',lk id=some o'/\(∀ τ xs,o = .aB τ xs->o' = .aB τ xs):=λ id o ho=>by
  rcases mT id with e|⟨cs,dJ,e1,e2,_⟩
  .exact⟨o,by rw[<-e];exact ho,λ τ xs q=>q⟩
  .rw[e2] at ho
   simp only[a5E] at ho
   exact⟨_,e1,λ τ xs q=>by rw[q] at ho;cases ho⟩
 have A7:∀ id τ xs,lk2 id=some (.aB τ xs)->lk id=some (.aB τ xs):=λ id τ xs ht=>by
  obtain⟨o',q1,q2⟩:=hold id _ ht
  rw[q1,q2 τ xs rfl]
 exact {
  defers:=h.defers,size:=h.size,aM:=h.aM,mO:=h.mO,eF:=h.eF,sX:=h.sX,dX:=h.dX
  aw:=λ i=>(h.aw i).mono (λ id _=>⟨gd id,rfl⟩) (λ _ q=>q) (λ _ _=>rfl)
  aH:=λ id o ho=>by
   rcases mT id with e|⟨cs,dJ,e1,e2,b,l,t,e3,e4,e5⟩
   .rw[e] at ho
    exact (h.aH id o ho).mono rfl (λ _ _=>rfl) (λ j _=>⟨gd j,rfl⟩) (λ _ q=>q) (λ _ _=>rfl)
   .rw[e2] at ho
    simp only[a5E] at ho
    subst ho
    exact⟨b,l,t,e3,e4,e5⟩
  place:=λ id o b ho hb=>by
   obtain⟨o',q1,_⟩:=hold id o ho
   exact h.place id o' b q1 hb
  apart:=λ id dD o o' b ho cM hb cw=>by
   obtain⟨p,q1,_⟩:=hold id o ho
   obtain⟨p',q2,_⟩:=hold dD o' cM
   exact h.apart id dD p p' b q1 q2 hb cw
  aT:={
   tr:=λ id τ xs ht=>h.aT.tr id τ xs (A7 id τ xs ht)
   nd:=λ id τ xs ht=>h.aT.nd id τ xs (A7 id τ xs ht)
   pl:=λ id τ xs b ht hb=>by
    obtain⟨p1,p2,p3,p4⟩:=h.aT.pl id τ xs b (A7 id τ xs ht) hb
    refine⟨p1,p2,p3,λ i o ho=>?_⟩
    obtain⟨o',q1,_⟩:=hold i o ho
    exact p4 i o' q1
   ap:=λ id dD τ aZ xs cX b ht T7=>h.aT.ap id dD τ aZ xs cX b (A7 id τ xs ht) (A7 dD aZ cX T7) }
  root:=λ id v hr ht=>h.root id v hr (by
   match hl:lk2 id,ht with
   | some (.aB τ xs),_=>rw[A7 id τ xs hl];rfl)
  ka:=h.ka
  dF:=λ id v hr ht=>h.dF id v hr (by
   rcases mT id with e|⟨cs,dJ,e1,e2,_⟩
   .rw[<-e];exact ht
   .rw[e1];rfl)
  fJ:=h.fJ }
theorem Cr{m:List (Nat×Nat)}{S:Nat->Prop}{B:Nat->Nat}{lk:Nat->Option av}:∀ {sh:List (List CK)} {k:Nat} {bO:List (List TV)} {n:Nat} {bs ts:List (Nat×av)} {fp:List Nat},ss lk m sh k bO n=some (bs,ts)->kc w S B k sh bO fp ->
  ∃ uo xs,ts=bS n uo/\dy w (uo.map TV.aK) xs fp/\(∀ u∈uo,u.τ.agg=false) /\
   (∀ j,k<=j->j<k+sh.length->∃ (id:Nat) (dJ:List AV) (l:List Value) (t:TypeId),ae m j=some id/\(id,av.box dJ)∈bs/\w.heap[B j]?=some (.cells l.toArray t (0,0))/\l.length=dJ.length) /\
   (∀ p∈bs,∃ (j:Nat) (dJ:List AV) (l:List Value) (t:TypeId),k<=j/\j<k+sh.length/\ae m j=some p.1/\p.2 = .box dJ/\w.heap[B j]?=some (.cells l.toArray t (0,0))/\l.length=dJ.length /\
    ∀ (G':Gh) (lk':Nat->Option av),(∀ b,S b->G'.S b)->(∀ j id,ae m j=some id->G'.η id = .pointer (some ⟨B j,0,none⟩)/\gG (lk' id)=true)->aN (C1 c G' lk' w) (ca n uo) xs->aN (C1 c G' lk' w) dJ l)
 | [],k,[],n,bs,ts,fp,h,hb=>by
  simp only[ss,a5E,a5H] at h
  obtain⟨rfl,rfl⟩:=h
  exact⟨[],[],rfl,⟨rfl,hb⟩,by simp,λ j h1 h2=>by simp at h2;omega,by simp⟩
 | ks::sh,k,ds::bO,n,bs,ts,fp,h,hb=>by
  simp only[ss] at h
  split at h
  case h_2=>cases h
  case h_1 id aW =>
  split at h
  case h_2=>cases h
  case h_1 cs mD =>
  split at h
  case h_2=>cases h
  case h_1 r os n1 hr =>
  split at h
  case h_2=>cases h
  case h_1 bs1 ts1 DT =>
  simp only[a5E,a5H] at h
  obtain⟨rfl,rfl⟩:=h
  obtain⟨l,t,f1,f2,rfl,hw,hB,hbs⟩:=hb
  obtain⟨e1,e2⟩:=uA hr
  obtain⟨uo,xs,q1,q2,q3,q4,q5⟩:=Cr DT hbs
  obtain⟨o1,o2,o3⟩:=hB.uo
  have Hw:∀ {G':Gh} {lk':Nat->Option av},aN (C1 c G' lk' w) (ca n (dH ks ds++uo)) (mL ks l++xs)->aN (C1 c G' lk' w) (ca n (dH ks ds)) (mL ks l)/\aN (C1 c G' lk' w) (ca n1 uo) xs:=λ {G' lk'} q=>by
   rw[sx,<-e2] at q
   have hl:(ca n (dH ks ds)).length=(mL ks l).length:=by
    rw[<-o3]
    have:∀ (us:List TV) (n:Nat),(ca n us).length=us.length:=λ us=>by
     induction us with
     | nil=>intro n;rfl
     | cons u us ih=>intro n;simp[ca,ih]
    exact this _ _
   have h1:=q.take (ca n (dH ks ds)).length
   have h2:=q.drop (ca n (dH ks ds)).length
   rw[a7M,hl,a7M] at h1
   rw[a7L,hl,a7L] at h2
   exact⟨h1,h2⟩
  have XK:l.length=r.length:=by
   have:∀ {ks:List CK} {cs:List AV} {ds:List TV} {n n':Nat} {r:List AV} {os:List (Nat×av)} {l:List Value} {fp:List Nat},bV m ks cs ds n=some (r,os,n')->mP w S B ks ds l fp->l.length=r.length:=by
    intro ks
    induction ks with
    | nil =>
     intro cs ds n n' r os l fp h hb
     cases cs<;>cases ds<;>simp[bV] at h
     obtain⟨rfl,_⟩:=h
     cases l with
     | nil=>rfl
     | cons x l=>cases hb
    | cons k0 ks ih =>
     intro cs ds n n' r os l fp h hb
     cases l with
     | nil=>cases k0<;>cases ds<;>cases hb
     | cons x l =>
      cases k0 with
      | d τ =>
       cases cs with
       | nil=>simp[bV] at h
       | cons c0 cs =>
        cases ds with
        | nil=>cases hb
        | cons v ds =>
         simp only[bV] at h
         split at h
         case h_2=>cases h
         case h_1 hv =>
         split at h
         case h_2=>cases h
         case h_1 r1 SE n1 hr =>
         simp only[a5E,a5H] at h
         obtain⟨rfl,rfl,rfl⟩:=h
         obtain⟨_,h2⟩:=hb
         simp[ih hr h2]
      | o τ =>
       cases cs with
       | nil=>simp[bV] at h
       | cons c0 cs =>
        cases ds with
        | nil=>cases hb
        | cons v ds =>
         simp only[bV] at h
         split at h
         case h_2=>cases h
         case h_1 hv =>
         split at h
         case h_2=>cases h
         case h_1 r1 SE n1 hr =>
         simp only[a5E,a5H] at h
         obtain⟨rfl,rfl,rfl⟩:=h
         obtain⟨_,_,_,_,h2⟩:=hb
         simp[ih hr h2]
      | p j =>
       cases cs with
       | nil=>cases ds<;>simp[bV] at h
       | cons c0 cs =>
        have hb:x = .pointer (some ⟨B j,0,none⟩)/\mP w S B ks ds l fp:=by cases ds<;>exact hb
        simp only[bV] at h
        split at h
        case h_2=>cases h
        case h_1 id =>
        split at h
        case h_2=>cases h
        case h_1 i hi =>
        split at h
        case h_2=>cases h
        case h_1 r1 SE n1 Xn hr =>
        simp only[a5E,a5H] at h
        obtain⟨rfl,rfl,rfl⟩:=h
        simp[ih hr hb.2]
   exact this hr hB
  refine⟨dH ks ds++uo,mL ks l++xs,by rw[AQ,e1,q1,e2],by rw[a7l];exact o1.append q2,λ u hu=>(a5G.1 hu).elim (o2 u) (q3 u),λ j h1 h2=>?_,λ p hp=>?_⟩
  .by_cases hj:j=k
   .subst hj
    exact⟨id,r,l,t,aW,a8F ..,hw,XK⟩
   .obtain⟨dD,dJ,l',t',g1,g2,g3,g4⟩:=q4 j (by omega) (by simp at h2;omega)
    exact⟨dD,dJ,l',t',g1,a7u _ g2,g3,g4⟩
  .rcases a5P.1 hp with rfl|hp
   .exact⟨k,r,l,t,a6b _,by simp,aW,rfl,hw,XK,λ G' lk' h1 h2 h3=>rq h1 h2 hr hB (Hw h3).1⟩
   .obtain⟨j,dJ,l',t',g1,g2,g3,g4,g5,g7,g6⟩:=q5 p hp
    exact⟨j,dJ,l',t',by omega,by simp;omega,g3,g4,g5,g7,λ G' lk' h1 h2 h3=>g6 G' lk' h1 h2 (Hw h3).2⟩
 | [],_,_::_,_,_,_,_,h,_=>by simp[ss] at h
 | _::_,_,[],_,_,_,_,h,_=>by simp[ss] at h
theorem tf{α:Type}:∀ {l:List (Nat×α)} {k:Nat},(∀ p∈l,p.1≠k)->ae l k=none
 | [],k,_=>rfl
 | (j,o)::l,k,h=>by
  rw[qm,a5J (λ e=>h (j,o) (by simp) e.symm)]
  exact tf λ p hp=>h p (by simp[hp])
theorem Cn:∀ (ids:List Nat) (l:List (Nat×av)) (i:Nat),ae (ia ids l) i=if i∈ids then none else ae l i
 | [],l,i=>by simp[ia]
 | id::r,l,i=>by
  rw[ia,Cn r,eo]
  by_cases h1:i∈r
  .simp[h1]
  .by_cases h2:i=id
   .simp[h1,h2]
   .simp[h1,h2]
theorem C7{m:List (Nat×Nat)}(h2:(m.map (·.2)).Nodup){j k id:Nat}(hj:ae m j=some id)(hk:ae m k=some id):j=k:=by
 have e1:=fU hj
 have e2:=fU hk
 have:(j,id)=(k,id):=by
  clear hj hk
  induction m with
  | nil=>cases e1
  | cons p m ih =>
   simp only[a6n,a6m] at h2
   rcases a5P.1 e1 with q1|e1
   .rcases a5P.1 e2 with q2|e2
    .rw[q1,q2]
    .exact absurd (a5K.2 ⟨(k,id),e2,by rw[<-q1]⟩) h2.1
   .rcases a5P.1 e2 with q2|e2
    .exact absurd (a5K.2 ⟨(j,id),e1,by rw[<-q2]⟩) h2.1
    .exact ih h2.2 e1 e2
 exact congrArg Prod.fst this
theorem xu{m:List (Nat×Nat)}{k id:Nat}(h:ae m k=some id):id∈m.map (·.2):=a5K.2 ⟨_,fU h,rfl⟩
theorem V6{m:List (Nat×Nat)}{n:Nat}(h1:(m.map (·.1)).Nodup)(hl:m.length=n)(hk:∀ k,k<n->∃ id,ae m k=some id):∀ p∈m,p.1<n:=by
 have Eo:List.range n ⊆ m.map (·.1):=λ k iR=>by
  obtain⟨id,q⟩:=hk k (a7Q.1 iR)
  exact a5K.2 ⟨_,fU q,rfl⟩
 have Je:(m.map (·.1)) ⊆ List.range n:=by
  intro x hx
  refine a8C λ hn=>?_
  have h3:(x::List.range n).Nodup:=a6m.2 ⟨hn,a8I⟩
  have h4:(x::List.range n) ⊆ m.map (·.1):=λ y hy=>(a5P.1 hy).elim (λ e=>e ▸ hx) (λ hy=>Eo hy)
  have:=a8i h3 h4
  simp at this
  omega
 exact λ p hp=>a7Q.1 (Je (a5K.2 ⟨p,hp,rfl⟩))
theorem Uy(hE:bJ c.P c.E)(h:Inv c G s a w){o:Oper}{vc:Vc}{s':af}(hq:QX c.E s o=some (vc,s'))(eJ:vc.ok){Q:Exit->Act->World->Prop} :
  o.wp c.P a w (λ a' w'=>∃ G',Inv c G' s' a' w') Q:=by
 unfold QX at hq
 split at hq
 case h_2=>cases hq
 case h_1 d hd =>
 split at hq
 case h_2=>cases hq
 case h_1 cl bw =>
 split at hq
 case h_2=>cases hq
 case h_1 f kQ =>
 split at hq
 case h_2=>cases hq
 case h_1 sk hsk =>
 split at hq
 case h_2=>cases hq
 case h_1 m0 hm0 =>
 split at hq
 case h_2=>cases hq
 case h_1 bO ids m hm =>
 split at hq
 case h_2=>cases hq
 case h_1 a0F =>
 split at hq
 case h_2=>cases hq
 case h_1 Z9 has =>
 split at hq
 case h_2=>cases hq
 case h_1 pre res fw hc =>
 split at hq
 case h_2=>cases hq
 case h_1 bs ts rH =>
 split at hq
 case h_2=>cases hq
 case h_1 DR =>
 simp only[a5E,a5H] at hq
 obtain⟨rfl,rfl⟩:=hq
 simp only[a5I] at a0F
 obtain⟨T4,VV,VW,hn4⟩:=a0F
 have T4:=dn T4
 have VV:=dn VV
 have VW:=dn VW
 have hn4:=a5F hn4
 simp only[a5I,a6i] at DR
 have tL:∀ p∈bm (bM d) res++ts,(ids.foldl af.gone s).ae p.1=none:=λ p hp=>by simpa using DR.1 p hp
 have rG:=dn DR.2
 obtain⟨tK,pM⟩:=hE.Pr f sk Z9 bO pre res fw hsk hc eJ
 obtain⟨_,TS⟩:=uQ hm0
 obtain⟨V1,Qg,fa,RX,R6,a4h⟩:=tZ h hm T4
 have RX:=RX m (mQ.refl m)
 have TS:∀ (i k:Nat),sk.ps[i]?=some (some k)->∃ id,(cl.args.toList.map s.eval)[i]?=some (AV.ptr id 0)/\ae m k=some id:=λ i k q=>by
  obtain⟨id,q1,q2⟩:=TS i k q
  exact⟨id,q1,V1 k id q2⟩
 have h1:Inv c G (ids.foldl af.gone s) a w:=uY ids h
 have hF:∀ b,b∈fa->uK c G (ids.foldl af.gone s).ae w b:=λ b hb=>G6 h (a4h b hb)
 have zC:∀ k,k<sk.sh.length->∃ (id:Nat) (cs:List AV),ae m k=some id/\(ids.foldl af.gone s).ae id=some (.box cs):=λ k hk=>by
  obtain⟨id,cs,q1,q2⟩:=Qg k (Nat.zero_le _) (by simpa using hk)
  refine⟨id,?_⟩
  have aW:id∉ids:=λ hi=>by
   have:∀ {sh:List (List CK)} {k:Nat} {m m':List (Nat×Nat)} {bO:List (List TV)} {ids:List Nat},jZ s.ae sh k m=some (bO,ids,m')->∀ i∈ids,∀ cs,s.ae i≠some (.box cs):=by
    have tJ:∀ {ks:List CK} {cs:List AV} {m m':List (Nat×Nat)} {ds:List TV} {ids:List Nat},dc s.ae ks cs m=some (ds,ids,m')->∀ i∈ids,∀ cs,s.ae i≠some (.box cs):=by
     intro ks
     induction ks with
     | nil =>
      intro cs m m' ds ids ht
      cases cs<;>simp[dc] at ht
      obtain⟨_,rfl,_⟩:=ht
      simp
     | cons k0 ks ih =>
      intro cs m m' ds ids ht
      cases cs with
      | nil=>cases k0<;>simp[dc] at ht
      | cons v cs =>
       cases k0 with
       | d τ =>
        simp only[dc] at ht
        split at ht
        case h_2=>cases ht
        case h_1 y hy Ao =>
        split at ht
        case h_2=>cases ht
        case h_1 ds1 Sl m1 hr =>
        simp only[a5E,a5H] at ht
        obtain⟨_,rfl,_⟩:=ht
        exact ih hr
       | o τ =>
        simp only[dc] at ht
        split at ht
        case h_2=>cases ht
        case h_1 y i hy Ao =>
        split at ht
        case h_2=>cases ht
        case h_1 ds1 Sl m1 hr =>
        simp only[a5E,a5H] at ht
        obtain⟨_,rfl,_⟩:=ht
        intro j hj PV
        rcases a5G.1 hj with hj|hj
        .unfold fu at hy
         split at hy
         .split at hy
          .simp only[a5E,a5H] at hy
           obtain⟨_,rfl⟩:=hy
           cases hj
          .cases hy
         .split at hy
          .simp only[a5E,a5H] at hy
           obtain⟨_,rfl⟩:=hy
           cases hj
          .cases hy
         .split at hy
          .rename_i hl
           split at hy
           .simp only[a5E,a5H] at hy
            obtain⟨_,rfl⟩:=hy
            simp only[a6t] at hj
            subst hj
            rw[hl]
            simp
           .cases hy
          .cases hy
         .split at hy
          .rename_i hl
           split at hy
           .simp only[a5E,a5H] at hy
            obtain⟨_,rfl⟩:=hy
            simp only[a6t] at hj
            subst hj
            rw[hl]
            simp
           .cases hy
          .cases hy
         .cases hy
        .exact ih hr j hj PV
       | p j =>
        simp only[dc] at ht
        split at ht
        case h_2=>cases ht
        case h_1 id =>
        split at ht
        .split at ht
         .exact ih ht
         .cases ht
        .exact ih ht
    intro sh
    induction sh with
    | nil =>
     intro k m m' bO ids ht
     simp only[jZ,a5E,a5H] at ht
     obtain⟨_,rfl,_⟩:=ht
     simp
    | cons ks sh ih =>
     intro k m m' bO ids ht
     simp only[jZ] at ht
     split at ht
     case h_2=>cases ht
     case h_1 id aW =>
     split at ht
     case h_2=>cases ht
     case h_1 cs mD =>
     split at ht
     case h_2=>cases ht
     case h_1 ds i m1 hr =>
     split at ht
     case h_2=>cases ht
     case h_1 a3A Sl m2 DT =>
     simp only[a5E,a5H] at ht
     obtain⟨_,rfl,_⟩:=ht
     intro j hj PV
     rcases a5G.1 hj with hj|hj
     .exact tJ hr j hj PV
     .exact ih DT j hj PV
   exact this hm id hi cs q2
  have:∀ (ids:List Nat) (s:af) (cs:List AV),id∉ids->s.ae id=some (.box cs)->∃ dJ,(ids.foldl af.gone s).ae id=some (.box dJ):=by
   intro ids
   induction ids with
   | nil=>intro s cs _ hs;exact⟨cs,hs⟩
   | cons i ids ih =>
    intro s cs hi hs
    have dU:id≠i:=λ e=>hi (by simp[e])
    refine ih (s.gone i) (cs.map (AV.kill i)) (λ q=>hi (by simp[q])) ?_
    rw[zI,a5J dU,hs]
    rfl
  obtain⟨dJ,q3⟩:=this ids s cs aW q2
  exact⟨dJ,q1,q3⟩
 generalize T5:ids.foldl af.gone s=s1 at *
 have gQ:∀ k id,ae m k=some id->k<sk.sh.length->G.η id = .pointer (some ⟨oa G m k,0,none⟩)/\dS (G.η id)=some (oa G m k):=λ k id hk bF=>by
  obtain⟨dD,cs,q1,q2⟩:=zC k bF
  rw[hk] at q1
  simp only[a5E] at q1
  subst q1
  obtain⟨b,l,t,k1,_⟩:=h1.aH id _ q2
  have:oa G m k=b:=by
   simp only[oa,hk,k1]
   rfl
  rw[this,k1]
  exact⟨rfl,rfl⟩
 have nk:=V6 VV hn4 (λ k hk=>by obtain⟨id,_,q,_⟩:=zC k hk;exact⟨id,q⟩)
 have XB:∀ id,id∈m.map (·.2)->∃ k cs,k<sk.sh.length/\ae m k=some id/\s1.ae id=some (.box cs):=λ id aW=>by
  obtain⟨⟨k,dD⟩,hp,rfl⟩:=a5K.1 aW
  have hk:=nk _ hp
  have hl:=uz VV hp
  obtain⟨id2,cs,q1,q2⟩:=zC k hk
  rw[hl] at q1
  simp only[a5E] at q1
  subst q1
  exact⟨k,cs,hk,hl,q2⟩
 have Hr:∀ j k,j<sk.sh.length->k<sk.sh.length->oa G m j=oa G m k->j=k:=λ j k hj hk e=>by
  obtain⟨idj,csj,j1,j2⟩:=zC j hj
  obtain⟨idk,csk,k1,k2⟩:=zC k hk
  have:=h1.apart idj idk _ _ (oa G m j) j2 k2 (gQ j idj j1 hj).2 (by rw[e];exact (gQ k idk k1 hk).2)
  subst this
  exact C7 VW j1 k1
 have UZ:∀ k,k<sk.sh.length->(c.w0.heap.size<=oa G m k\/c.X (oa G m k))/\¬ G.S (oa G m k)/\oa G m k<w.heap.size:=λ k hk=>by
  obtain⟨id,cs,k1,k2⟩:=zC k hk
  exact h1.place id _ _ k2 (gQ k id k1 hk).2
 have a4g:∀ b∈fa,∀ k,k<sk.sh.length->oa G m k≠b:=λ b hb k hk e=>by
  obtain⟨id,cs,k1,k2⟩:=zC k hk
  exact (hF b hb).2.2.2.1 id _ k2 (by rw[<-e];exact (gQ k id k1 hk).2)
 have hXo:∀ b,BX sk.sh.length (oa G m) fa b->(c.w0.heap.size<=b\/c.X b)/\¬ G.S b:=λ b hb=>by
  rcases hb with hb|⟨k,hk,rfl⟩
  .exact⟨(hF b hb).1,(hF b hb).2.1⟩
  .exact⟨(UZ k hk).1,(UZ k hk).2.1⟩
 have MQ:∀ b,BX sk.sh.length (oa G m) fa b->¬ St c G.S b:=λ b hb q=>by
  obtain⟨q1,q2⟩:=hXo b hb
  rcases q with q|⟨q,q3,_⟩
  .exact q2 q
  .exact q1.elim (λ q=>by omega) q3
 have BS:∀ id o b,id∉m.map (·.2)->s1.ae id=some o->dS (G.η id)=some b->¬ BX sk.sh.length (oa G m) fa b:=λ id o b aW ho hb q=>by
  rcases q with q|⟨k,hk,rfl⟩
  .exact (hF b q).2.2.2.1 id _ ho hb
  .obtain⟨dD,cs,k1,k2⟩:=zC k hk
   have:=h1.apart id dD _ _ _ ho k2 hb (gQ k dD k1 hk).2
   subst this
   exact aW (xu k1)
 have a3R:∀ id τ xs b,s1.ae id=some (.aB τ xs)->b∈G.φ id->¬ BX sk.sh.length (oa G m) fa b:=λ id τ xs b ht hb q=>by
  rcases q with q|⟨k,hk,rfl⟩
  .exact (hF b q).2.2.2.2 id τ xs ht hb
  .obtain⟨dD,cs,k1,k2⟩:=zC k hk
   exact (h1.aT.pl id τ xs _ ht hb).2.2.2 dD _ k2 (gQ k dD k1 hk).2
 have gb:=CG hE h1 (mf:=m) MQ (λ id cs b ho hb=>BS id _ b (qo ho).2.1 (qo ho).1 hb) (lk0:=s.ae) has (aN.pG (bp h1) cl.args.toList) (aN.pG (bp h) cl.args.toList) TS
 unfold Oper.wp
 rw[lB bw kQ rfl tK]
 simp only[Oper.upon]
 refine (pM w G.S (oa G m) _ fa h1.Wk RX R6 (λ b hb=>⟨(hF b hb).2.2.1,(hF b hb).2.1,a4g b hb⟩) (λ k hk=>⟨(UZ k hk).2.2,(UZ k hk).2.1⟩) Hr gb).mono ?_
 rintro e w' ⟨x,S',fp,I3,rfl,hk,Zl,Zm,hS3,hO,hB',dC,uu,hBS⟩
 obtain⟨uo,xs,e1,e2,e3,e4,e5⟩:=Cr rH hB'
 let Cm:Nat->Option av:=λ i=>match ae bs i with
  | some (.box cs)=>some (.box (List.replicate cs.length .any))
  | _=>s1.ae i
 have Qh:∀ id,id∈m.map (·.2)->∃ (k:Nat) (dJ:List AV),k<sk.sh.length/\ae m k=some id/\ae bs id=some (.box dJ)/\∃ (l:List Value) (t:TypeId),w'.heap[oa G m k]?=some (.cells l.toArray t (0,0))/\l.length=dJ.length:=λ id aW=>by
  obtain⟨k,cs,k1,k2,k3⟩:=XB id aW
  obtain⟨dD,dJ,l,t,g1,g2,g3,g4⟩:=e4 k (Nat.zero_le _) (by simpa using k1)
  rw[k2] at g1
  simp only[a5E] at g1
  subst g1
  have cu:∃ o,ae bs id=some o:=by
   cases hl:ae bs id with
   | some o=>exact⟨o,rfl⟩
   | none =>
    exfalso
    have:∀ {l:List (Nat×av)} {k:Nat},ae l k=none->∀ p∈l,p.1≠k:=by
     intro l
     induction l with
     | nil=>intro k _ p hp;cases hp
     | cons q l ih =>
      intro k hq p hp
      obtain⟨j,o⟩:=q
      rw[qm] at hq
      split at hq
      .cases hq
      .rename_i dU
       rcases a5P.1 hp with rfl|hp
       .exact λ e=>dU e.symm
       .exact ih hq p hp
    exact this hl _ g2 rfl
  obtain⟨o,ho⟩:=cu
  obtain⟨j,PV,l2,t2,_,j2,j3,j4,j5,j6,_⟩:=e5 _ (fU ho)
  have:j=k:=C7 VW j3 k2
  subst this
  simp only at j4
  subst j4
  exact⟨j,PV,k1,k2,ho,l2,t2,j5,j6⟩
 have a0E:∀ id,id∉m.map (·.2)->ae bs id=none:=λ id aW=>tf λ p hp e=>by
  obtain⟨j,_,_,_,_,_,j3,_⟩:=e5 p hp
  exact aW (e ▸ xu j3)
 have Pb:∀ id,id∉m.map (·.2)->Cm id=s1.ae id:=λ id aW=>by simp only[Cm,a0E id aW]
 have Xx:∀ id k dJ,ae m k=some id->ae bs id=some (.box dJ)->Cm id=some (.box (List.replicate dJ.length .any)):=λ id k dJ _ hb=>by simp only[Cm,hb]
 have hA:bn c ⟨S',G.η,G.φ⟩ s1.sl s1.aw.length Cm a w':=by
  refine Inv.Y2 h1 (X:=BX sk.sh.length (oa G m) fa) hk (λ b hb=>(hXo b hb).1) (λ b hb=>(hXo b hb).2) Zl Zm hS3 (λ id=>?_) a3R
  by_cases aW:id∈m.map (·.2)
  .obtain⟨k,dJ,q1,q2,q3,l,t,q4,q5⟩:=Qh id aW
   obtain⟨_,cs,_,_,q6⟩:=XB id aW
   obtain⟨g1,g2⟩:=gQ k id q2 q1
   refine .inr ⟨cs,_,q6,Xx id k dJ q2 q3,λ b hb=>?_,oa G m k,l,t,g1,q4,λ G' lk'=>?_⟩
   .rw[g2] at hb
    simp only[a5E] at hb
    subst hb
    exact hBS k q1
   .have:∀ (l:List Value),aN (C1 c G' lk' w') (List.replicate l.length .any) l:=λ l=>by
     induction l with
     | nil=>exact trivial
     | cons x l ih=>exact⟨trivial,ih⟩
    rw[<-q5]
    exact this l
  .exact .inl ⟨Pb id aW,λ o b ho hb=>BS id o b aW ho hb⟩
 have XD:∀ p∈bm (bM d) res++ts,p.1∉m.map (·.2):=λ p hp aW=>by
  obtain⟨_,cs,_,_,q⟩:=XB p.1 aW
  rw[tL p hp] at q
  cases q
 rw[a5Y] at dC
 obtain⟨X5,X6,X7⟩:=dC
 rw[a7l,a5Y] at rG
 obtain⟨dd1,dd2,dd3⟩:=rG
 have VM:Fr c ⟨S',G.η,G.φ⟩ Cm w' (fp++I3):=λ b hb=>by
  obtain⟨q1,q2,q3⟩:=uu b hb
  have vb:∀ i o,Cm i=some o->dS (G.η i)≠some b:=λ i o cm e=>by
   by_cases aW:i∈m.map (·.2)
   .obtain⟨k,dJ,g1,g2,_⟩:=Qh i aW
    rw[(gQ k i g2 g1).2] at e
    simp only[a5E] at e
    exact q3 k g1 e
   .rw[Pb i aW] at cm
    rcases q1 with q1|⟨q1,_⟩
    .exact (hF b q1).2.2.2.1 i o cm e
    .have:=(h1.place i o b cm e).2.2;omega
  have hbt:∀ j τ zs,Cm j=some (.aB τ zs)->b∉G.φ j:=λ j τ zs hj pL=>by
   by_cases aW:j∈m.map (·.2)
   .obtain⟨k,dJ,g1,g2,g3,_⟩:=Qh j aW
    rw[Xx j k dJ g2 g3] at hj
    cases hj
   .rw[Pb j aW] at hj
    rcases q1 with q1|⟨q1,_⟩
    .exact (hF b q1).2.2.2.2 j τ zs hj pL
    .have:=(h1.aT.pl j τ zs b hj pL).2.2.1;omega
  rcases q1 with q1|⟨q1,q1'⟩
  .exact⟨(hF b q1).1,q2,a5Q (hF b q1).2.2.1 hk.size,vb,hbt⟩
  .exact⟨.inl (a7T h1.aM.size q1),q2,q1',vb,hbt⟩
 have I9:∀ j,bM d<=j->c.R j=none:=λ j hj=>by
  cases hr:c.R j with
  | none=>rfl
  | some v=>have:=h.ka j v hr;unfold bM at hj;omega
 obtain⟨ys,xo,M9⟩:=FZ (c:=c) (id:=bM d) hO
 obtain⟨G1,FJ,k1,k2,k3,k4,k5⟩:=hA.Gp (id:=bM d) xo X5 (λ b hb=>VM b (by simp[hb])) (λ p hp=>by
  rw[Pb p.1 (XD p (by simp[hp]))]
  exact tL p (by simp[hp])) dd1 I9
 rw[e1] at dd2 dd3 tL XD
 obtain⟨G2,lk2,p1,p2,p3,p4,_⟩:=k2.xF (us:=uo) (cs:=xs) (fp:=I3) (id:=bM d+60) e3 e2 X6 (k5 I3 (λ b hb=>VM b (by simp[hb])) λ b hb cw=>X7 b cw b hb rfl) (λ p hp=>by
  rw[k1 p.1]
  unfold iJ
  rw[tf (l:=bm (bM d) res) λ q hq e=>dd3 q.1 (a5K.2 ⟨q,hq,rfl⟩) p.1 (a5K.2 ⟨p,hp,rfl⟩) e]
  simp only
  rw[Pb p.1 (XD p (by simp[hp]))]
  exact tL p (by simp[hp])) dd2 (λ j hj=>I9 j (by omega))
 have a4x:VR c G2 lk2 w' (lV (bM d) res) x:=M9 G2 lk2 (k4.imp λ u y _ hy=>hy.ext p3)
 have B4:=bn.put (d:=some d) p2 a4x
 have a0H:∀ i,af.ae { aw:=s1.aw.set d (lV (bM d) res),aH:=bs++(bm (bM d) res++ts)++ia (m.map (·.2)) s1.aH } i=iJ bs (iJ (bm (bM d) res) (iJ ts (λ i=>if i∈m.map (·.2) then none else s1.ae i))) i:=λ i=>by
  show ae (bs++(bm (bM d) res++ts)++ia (m.map (·.2)) s1.aH) i=_
  rw[a6u,ql,show ae (bm (bM d) res++ts++ia (m.map (·.2)) s1.aH)=iJ (bm (bM d) res) (iJ ts (λ i=>if i∈m.map (·.2) then none else s1.ae i)) from funext λ j=>by
   rw[a6u,ql,show ae (ts++ia (m.map (·.2)) s1.aH)=iJ ts (λ i=>if i∈m.map (·.2) then none else s1.ae i) from funext λ j=>by
    rw[ql,show ae (ia (m.map (·.2)) s1.aH)=(λ i=>if i∈m.map (·.2) then none else s1.ae i) from funext λ j=>Cn _ _ j]]]
 generalize cp:({ aw:=s1.aw.set d (lV (bM d) res),aH:=bs++(bm (bM d) res++ts)++ia (m.map (·.2)) s1.aH }:af)=s2 at *
 have a4m:∀ i,lk2 i=iJ ts (iJ (bm (bM d) res) Cm) i:=λ i=>by
  rw[p1 i,e1]
  unfold iJ
  rw[k1 i]
  rfl
 have Pd:∀ i,i∉m.map (·.2)->s2.ae i=lk2 i:=λ i aW=>by
  rw[a0H i,a4m i]
  unfold iJ
  rw[a0E i aW,Pb i aW]
  simp only[a5J aW]
  cases hV:ae (bm (bM d) res) i with
  | none=>rfl
  | some o =>
   rw[tf (l:=ts) λ q hq e=>dd3 i (a5K.2 ⟨(i,o),fU hV,rfl⟩) q.1 (a5K.2 ⟨q,by rw[<-e1];exact hq,rfl⟩) e.symm]
 have iX:∀ i,i∈m.map (·.2)->∃ k dJ,k<sk.sh.length/\ae m k=some i/\ae bs i=some (.box dJ)/\lk2 i=some (.box (List.replicate dJ.length .any))/\s2.ae i=some (.box dJ)/\G2.η i = .pointer (some ⟨oa G m k,0,none⟩):=λ i aW=>by
  obtain⟨k,dJ,q1,q2,q3,_⟩:=Qh i aW
  have Xb:=Xx i k dJ q2 q3
  obtain⟨r1,r2,_⟩:=(k3.trans p3).Wb i _ Xb
  refine⟨k,dJ,q1,q2,q3,r1,?_,by rw[r2];exact (gQ k i q2 q1).1⟩
  rw[a0H i]
  unfold iJ
  rw[q3]
 have gd:∀ i,er (lk2 i) (s2.ae i):=λ i=>by
  by_cases aW:i∈m.map (·.2)
  .obtain⟨k,dJ,_,_,_,q4,q5,_⟩:=iX i aW
   rw[q4,q5]
   exact⟨λ _=>rfl,(λ e τ xs q=>by cases q),(λ q=>by cases q),λ q=>by cases q⟩
  .rw[Pd i aW];exact er.refl _
 have a2d:=bn.a4E (lk2:=s2.ae) B4 (λ i=>by
  by_cases aW:i∈m.map (·.2)
  .obtain⟨k,dJ,q1,q2,q3,q4,q5,q6⟩:=iX i aW
   obtain⟨j,PV,l,t,_,j2,j3,j4,j5,_,j7⟩:=e5 _ (fU q3)
   have:j=k:=C7 VW j3 q2
   subst this
   simp only[av.box.injEq] at j4
   subst j4
   refine .inr ⟨_,_,q4,q5,oa G m j,l,t,q6,j5,?_⟩
   refine j7 G2 s2.ae (λ b hb=>by rw[p3.S,k3.S];exact hb) (λ j' id yi=>?_) (p4.imp λ u y _ hy=>hy.mono (λ i _=>⟨gd i,rfl⟩) (λ _ q=>q) (λ _ _=>rfl))
   obtain⟨k',a5v,g1,g2,_,_,g5,g6⟩:=iX id (xu yi)
   have:j'=k':=C7 VW yi g2
   subst this
   exact⟨g6,by rw[g5];rfl⟩
  .exact .inl (Pd i aW))
 refine⟨G2,?_⟩
 unfold Inv
 rw[hd,<-cp,show af.sl { aw:=s1.aw.set d (lV (bM d) res),aH:=bs++(bm (bM d) res++ts)++ia (m.map (·.2)) s1.aH }=lL s1.aw.length s1.sl (some d) (lV (bM d) res) from rv s1.aw d _ _,
  show ({ aw:=s1.aw.set d (lV (bM d) res),aH:=bs++(bm (bM d) res++ts)++ia (m.map (·.2)) s1.aH }:af).aw.length=s1.aw.length from by simp,cp]
 exact a2d
end
end Go.Proofs.YtnehkikdlnmebaaGreatDoor

namespace Go.Proofs.YtnehkikdlnmebaaGreatDoor
theorem ya(id:Nat)(u:AV):∀ l:List AV,AV.MM id u l=l.map (AV.DE id u)
 | []=>rfl
 | v::r=>congrArg _ (ya id u r)
section
variable {c:Ctx} {G:Gh} {s:af} {a:Act} {w w':World}
theorem Yq{lk:Nat->Option av}{id:Nat}{e:TypeId}{τ:Ty}{xs:List τ.den}(ho:OR c G lk w id (.row e τ xs)){S':Nat->Prop}(hS:∀ b,G.S b->S' b)(hb:∀ b,dS (G.η id)=some b->S' b) :
  Rd w S' (Ty.aK (.slice τ) xs) [G.η id]:=by
 obtain⟨l,h1,h2,h3⟩:=ho
 exact Pl h1 h2 h3 hS hb
theorem C1.DE{lk lk':Nat->Option av}{id:Nat}{e:TypeId}{τ:Ty}{xs:List τ.den}(aW:lk id=some (.row e τ xs))(ho:OR c G lk w id (.row e τ xs)){S':Nat->Prop}(hS:∀ b,G.S b->S' b)(hb:∀ b,dS (G.η id)=some b->S' b)
  (cu:∀ j,j≠id->er (lk j) (lk' j)) {v:AV} {x:Value} (h:C1 c G lk w v x):C1 c ⟨S',G.η,G.φ⟩ lk' w (AV.DE id (.aS ⟨.slice τ,xs⟩) v) x:=by
 have aM:(∀ j,v.refs j=true->j≠id)->C1 c ⟨S',G.η,G.φ⟩ lk' w v x:=λ hr=>h.mono (λ j hj=>⟨cu j (hr j hj),rfl⟩) hS (λ _ _=>rfl)
 cases v with
 | row i =>
  simp only[AV.DE]
  split
  .rename_i hi
   have hi:=a5F hi
   subst hi
   refine⟨rfl,?_⟩
   rw[h.1]
   exact Yq ho hS hb
  .rename_i hi
   refine aM λ j hj=>?_
   simp only[AV.refs] at hj
   have:=a5F hj
   intro e
   subst this e
   simp at hi
 | ei i k off =>
  simp only[AV.DE]
  split
  .trivial
  .rename_i hi
   refine aM λ j hj=>?_
   simp only[AV.refs] at hj
   have:=a5F hj
   intro e
   subst this e
   simp at hi
 | ptr i off =>
  refine aM λ j hj=>?_
  simp only[AV.refs] at hj
  have:=a5F hj
  intro e
  subst this e
  obtain⟨b,_,_,h3⟩:=h
  rw[aW] at h3
  cases h3
 | agg cs=>exact h.elim
 | j8 cs=>exact h.elim
 | di f cs=>exact h.elim
 | jE v=>exact aM λ j hj=>by cases hj
 | any=>trivial
 | eC=>exact h
 | aS u=>exact aM λ j hj=>by cases hj
 | nil=>exact aM λ j hj=>by cases hj
 | fX u=>exact aM λ j hj=>by cases hj
 | fn f=>exact aM λ j hj=>by cases hj
 | mp i =>
  refine aM λ j hj=>?_
  simp only[AV.refs] at hj
  have:=a5F hj
  intro e
  subst this e
  have h3:=h.2.1
  rw[aW] at h3
  cases h3
 | aB i =>
  refine aM λ j hj=>?_
  simp only[AV.refs] at hj
  have:=a5F hj
  intro e
  subst this e
  have h1:=h.1
  rw[aW] at h1
  cases h1
 | sub i k o z =>
  refine aM λ j hj=>?_
  simp only[AV.refs] at hj
  have:=a5F hj
  intro e
  subst this e
  have h1:=h.1
  rw[aW] at h1
  cases h1
 | eH i k o z =>
  refine aM λ j hj=>?_
  simp only[AV.refs] at hj
  have:=a5F hj
  intro e
  subst this e
  have h1:=h.1
  rw[aW] at h1
  cases h1
theorem x9(id:Nat)(u:AV):∀ l:List AV,AV.ML id u l=l.map (AV.A2 id u)
 | []=>rfl
 | v::r=>congrArg _ (x9 id u r)
theorem C1.A2{lk lk':Nat->Option av}{id:Nat}{τ:Ty}{xs:List τ.den}(aW:lk id=some (.aB τ xs))(hT:km w (G.η id) τ xs (G.φ id)){S':Nat->Prop}(hS:∀ b,G.S b->S' b)(hb:∀ b∈G.φ id,S' b)
  (cu:∀ j,j≠id->er (lk j) (lk' j)) {v:AV} {x:Value} (h:C1 c G lk w v x):C1 c ⟨S',G.η,G.φ⟩ lk' w (AV.A2 id (.aS ⟨.slice τ,xs⟩) v) x:=by
 have aM:(∀ j,v.refs j=true->j≠id)->C1 c ⟨S',G.η,G.φ⟩ lk' w v x:=λ hr=>h.mono (λ j hj=>⟨cu j (hr j hj),rfl⟩) hS (λ _ _=>rfl)
 have other:∀ i:Nat,(Nat.beq i id=false\/df (lk i)=false)->(∀ j,v.refs j=true->Nat.beq i j=true)->C1 c ⟨S',G.η,G.φ⟩ lk' w v x:=λ i hi hr=>aM λ j hj e=>by
  have q:=a5F (hr j hj)
  subst q
  subst e
  rcases hi with hi|hi
  .simp at hi
  .rw[aW] at hi;cases hi
 cases v with
 | aB i =>
  simp only[AV.A2]
  split
  .rename_i hi
   have hi:=a5F hi
   subst hi
   obtain⟨_,l,h2,_⟩:=h
   exact⟨rfl,hT.rd h2 hb⟩
  .rename_i hi
   exact other i (.inl hi) λ j hj=>hj
 | sub i k o z =>
  simp only[AV.A2]
  split
  .trivial
  .rename_i hi
   exact other i (.inl hi) λ j hj=>hj
 | eH i k o z =>
  simp only[AV.A2]
  split
  .trivial
  .rename_i hi
   exact other i (.inl hi) λ j hj=>hj
 | row i=>exact other i (.inr (sJ h.2.1)) λ j hj=>hj
 | ei i k off =>
  refine other i (.inr ?_) λ j hj=>hj
  obtain⟨b,n,cap,e,aZ,cX,_,h3,_⟩:=h
  rw[h3];rfl
 | ptr i off =>
  refine other i (.inr ?_) λ j hj=>hj
  obtain⟨b,_,_,h3⟩:=h
  match hl:lk i,h3 with
  | some (.box _),_=>rfl
 | mp i=>exact other i (.inr (EA h.2.1)) λ j hj=>hj
 | agg cs=>exact h.elim
 | j8 cs=>exact h.elim
 | di f cs=>exact h.elim
 | jE v=>exact aM λ j hj=>by cases hj
 | any=>trivial
 | eC=>exact h
 | aS u=>exact aM λ j hj=>by cases hj
 | nil=>exact aM λ j hj=>by cases hj
 | fX u=>exact aM λ j hj=>by cases hj
 | fn f=>exact aM λ j hj=>by cases hj
structure Fx(F:AV->AV):Prop where
 aS:∀ v,F (.aS v) = .aS v
 agg:∀ cs,F (.agg cs) = .agg (cs.map F)
 j8:∀ cs,F (.j8 cs) = .j8 (cs.map F)
 di:∀ f cs,F (.di f cs) = .di f (cs.map F)
 any:F .any = .any
 aB:∀ i,(∃ u,F (.aB i) = .aS u)\/F (.aB i) = .aB i
section
variable {F:AV->AV} {G':Gh} {lk lk':Nat->Option av} (hF:Fx F) (hC:∀ v x,C1 c G lk w v x->C1 c G' lk' w (F v) x) (hS:∀ b,G.S b->G'.S b)
include hF hC hS
theorem CR.fx{v:AV}{x:Value}(h:CR c G lk w v x):CR c G' lk' w (F v) x:=by
 rcases h.inv with ⟨u,rfl,h1⟩|⟨cs,l,rfl,rfl,h1⟩|h1
 .rw[hF.aS];exact eI.mono h1 hS (λ _ _=>rfl)
 .rw[hF.agg]
  exact⟨l,rfl,aN.eB _ (h1.imp λ u y _ hy=>hC u y hy)⟩
 .exact (hC _ _ h1).S8
theorem VR.fx{v:AV}{x:Value}(h:VR c G lk w v x):VR c G' lk' w (F v) x:=by
 have key:C1 c G lk w v x->VR c G' lk' w (F v) x:=λ q=>(hC v x q).hJ
 cases v with
 | aS u=>rw[hF.aS];exact eI.mono h hS (λ _ _=>rfl)
 | agg cs =>
  obtain⟨l,rfl,h2⟩:=h
  rw[hF.agg]
  exact⟨l,rfl,aN.eB _ (h2.imp λ u y _ hy=>hC u y hy)⟩
 | j8 vs =>
  obtain⟨l,rfl,h2⟩:=h
  rw[hF.j8]
  refine⟨l,rfl,aN.eB _ (h2.imp λ u y _ hy=>?_)⟩
  cases u with
  | any=>rw[hF.any];trivial
  | aS v=>rw[hF.aS];exact eI.mono hy hS (λ _ _=>rfl)
  | aB i =>
   have q:=hC (.aB i) y hy
   rcases hF.aB i with ⟨u,e⟩|e<;>rw[e] at q ⊢
   .exact q.hJ
   .exact q
  | agg cs =>
   obtain⟨l,rfl,h2⟩:=hy
   rw[hF.agg]
   exact⟨l,rfl,aN.eB _ (h2.imp λ u y _ hy=>hC u y hy)⟩
  | _=>exact hy.elim
 | di f cs =>
  obtain⟨l,rfl,h2⟩:=h
  rw[hF.di]
  exact⟨l,rfl,aN.eB _ (h2.imp λ u y _ hy=>CR.fx hF hC hS hy)⟩
 | any=>rw[hF.any];trivial
 | _=>exact key h
end
theorem Ze(id:Nat)(u:TV):Fx (AV.DE id (.aS u)):=⟨λ _=>rfl,λ cs=>by rw[AV.DE,ya],λ cs=>by rw[AV.DE,ya],λ f cs=>by rw[AV.DE,ya],rfl,λ i => .inr rfl⟩
theorem Zd(id:Nat)(u:TV):Fx (AV.A2 id (.aS u)):=⟨λ _=>rfl,λ cs=>by rw[AV.A2,x9],λ cs=>by rw[AV.A2,x9],λ f cs=>by rw[AV.A2,x9],rfl,λ i=>by
 simp only[AV.A2]
 split
 .exact .inl ⟨u,rfl⟩
 .exact .inr rfl⟩
def av.fh(F:AV->AV):av->av
 | .box cs => .box (cs.map F)
 | o=>o
theorem Inv.fix(h:Inv c G s a w)(id:Nat)(F:AV->AV)(hF:Fx F)(B:Nat->Prop)(hB:∀ b,B b->(c.w0.heap.size<=b\/c.X b)/\b<w.heap.size/\(∀ i o,i≠id->s.ae i=some o->dS (G.η i)≠some b)/\∀ i τ xs,i≠id->s.ae i=some (.aB τ xs)->b∉G.φ i)
  (hC:∀ lk',(∀ j,j≠id->er (s.ae j) (lk' j))->∀ v x,C1 c G s.ae w v x->C1 c ⟨λ b=>G.S b\/B b,G.η,G.φ⟩ lk' w (F v) x) :
  Inv c ⟨λ b=>G.S b\/B b,G.η,G.φ⟩ { aw:=s.aw.map F,aH:=(bK id s.aH).map λ p=>(p.1,p.2.fh F) } a w:=by
 have hS:∀ b,G.S b->G.S b\/B b:=λ b hb => .inl hb
 have cu:∀ i,af.ae { aw:=s.aw.map F,aH:=(bK id s.aH).map λ p=>(p.1,p.2.fh F) } i=(if i=id then none else s.ae i).map (av.fh F):=by
  intro i
  show ae ((bK id s.aH).map _) i=_
  rw[Da,eo]
  rfl
 have gd:∀ j,j≠id->er (s.ae j) (af.ae { aw:=s.aw.map F,aH:=(bK id s.aH).map λ p=>(p.1,p.2.fh F) } j):=by
  intro j hj
  rw[cu,a5J hj]
  refine⟨λ hh=>?_,λ e τ xs hh=>⟨e,xs,by rw[hh];rfl,a6b _⟩,λ hh=>?_,λ hh=>?_⟩
  .match hq:s.ae j,hh with
   | some (.box cs),_=>rfl
  .match hq:s.ae j,hh with
   | some (.aB τ xs),_=>rfl
  .match hq:s.ae j,hh with
   | some (.map m),_=>rfl
 have hC:=hC _ gd
 have hinv:∀ i o,af.ae { aw:=s.aw.map F,aH:=(bK id s.aH).map λ p=>(p.1,p.2.fh F) } i=some o->i≠id/\∃ o',s.ae i=some o'/\o=o'.fh F:=λ i o cm=>by
  rw[cu] at cm
  simp only[a6r] at cm
  obtain⟨o',cm,rfl⟩:=cm
  by_cases hi:i=id
  .simp[hi] at cm
  .rw[a5J hi] at cm
   exact⟨hi,o',cm,rfl⟩
 exact {
  defers:=h.defers
  size:=by rw[h.size];simp
  aM:=h.aM
  mO:=h.mO
  eF:=λ b hbl hx=>⟨λ hh=>by
   rcases hh with hh|hh
   .exact (h.eF b hbl hx).1 hh
   .exact (hB b hh).1.elim (λ q=>by omega) (λ q=>absurd q hx),λ hh => .inl ((h.eF b hbl hx).2 hh)⟩
  sX:=λ b hh => .inl (h.sX b hh)
  dX:=λ b hh=>by
   rcases hh with hh|hh
   .exact h.dX b hh
   .exact (hB b hh).2.1
  aw:=λ i=>by
   have he:af.sl { aw:=s.aw.map F,aH:=(bK id s.aH).map λ p=>(p.1,p.2.fh F) } i=F (s.sl i):=by
    simp only[af.sl,a6o,a7w]
    cases s.aw[i]? with
    | none=>exact hF.any.symm
    | some v=>rfl
   rw[he]
   exact VR.fx hF hC hS (h.aw i)
  aH:=λ i o cm=>by
   obtain⟨hi,o',eg,rfl⟩:=hinv i o cm
   have cM:=h.aH i o' eg
   cases o' with
   | box cs =>
    obtain⟨b,l,t,k1,k2,k3⟩:=cM
    exact⟨b,l,t,k1,k2,aN.eB _ (k3.imp λ u y _ hy=>hC u y hy)⟩
   | row e2 mr oB =>
    obtain⟨l,k1,k2,k3⟩:=cM
    exact⟨l,k1,dA.aM hS (λ _ _=>rfl) _ k2,k3⟩
   | aB mr oB=>trivial
   | map m=>exact cM
  place:=λ i o b cm jG=>by
   obtain⟨hi,o',eg,rfl⟩:=hinv i o cm
   obtain⟨q1,q2,q3⟩:=h.place i o' b eg jG
   exact⟨q1,λ hs=>hs.elim q2 λ hs=>(hB b hs).2.2.1 i o' hi eg jG,q3⟩
  apart:=λ i j o o2 b cm FA vb pL=>by
   obtain⟨_,o',eg,rfl⟩:=hinv i o cm
   obtain⟨_,o2',a4j,rfl⟩:=hinv j o2 FA
   exact h.apart i j o' o2' b eg a4j vb pL
  aT:=by
   have hold:∀ j mr oB,af.ae { aw:=s.aw.map F,aH:=(bK id s.aH).map λ p=>(p.1,p.2.fh F) } j=some (.aB mr oB)->j≠id/\s.ae j=some (.aB mr oB):=λ j mr oB k=>by
    obtain⟨hj,o',FA,e⟩:=hinv j _ k
    refine⟨hj,?_⟩
    match o',e with
    | .aB ..,e=>rw[FA,e];rfl
    | .box _,e=>cases e
    | .row ..,e=>cases e
    | .map _,e=>cases e
   exact {
    tr:=λ j mr oB k=>h.aT.tr j mr oB (hold j mr oB k).2
    nd:=λ j mr oB k=>h.aT.nd j mr oB (hold j mr oB k).2
    pl:=λ j mr oB b k cw=>by
     obtain⟨hj,k⟩:=hold j mr oB k
     obtain⟨q1,q2,q3,q4⟩:=h.aT.pl j mr oB b k cw
     refine⟨q1,λ hs=>hs.elim q2 λ hs=>(hB b hs).2.2.2 j mr oB hj k cw,q3,λ i o cm=>?_⟩
     obtain⟨_,o',eg,rfl⟩:=hinv i o cm
     exact q4 i o' eg
    ap:=λ j j' mr a1s oB a1r b k k'=>h.aT.ap j j' mr a1s oB a1r b (hold j mr oB k).2 (hold j' a1s a1r k').2 }
  root:=λ i v hr ht=>h.root i v hr (by
   match hl:af.ae { aw:=s.aw.map F,aH:=(bK id s.aH).map λ p=>(p.1,p.2.fh F) } i,ht with
   | some (.aB ..),_ =>
    obtain⟨_,o',cm,e⟩:=hinv i _ hl
    match o',e with
    | .aB ..,e=>rw[cm];rfl
    | .box _,e=>cases e
    | .row ..,e=>cases e
    | .map _,e=>cases e)
  ka:=h.ka
  dF:=λ i v hr ht=>h.dF i v hr (by
   match hl:af.ae { aw:=s.aw.map F,aH:=(bK id s.aH).map λ p=>(p.1,p.2.fh F) } i,ht with
   | some (.box _),_ =>
    obtain⟨_,o',cm,e⟩:=hinv i _ hl
    match o',e with
    | .box _,e=>rw[cm];rfl
    | .aB ..,e=>cases e
    | .row ..,e=>cases e
    | .map _,e=>cases e)
  fJ:=h.fJ }
theorem VJ(id:Nat)(u:AV)(o:av):o.DE id u=o.fh (AV.DE id u):=by
 cases o<;>simp[av.DE,av.fh,ya]
theorem VI(id:Nat)(u:AV)(o:av):o.A2 id u=o.fh (AV.A2 id u):=by
 cases o<;>simp[av.A2,av.fh,x9]
theorem Inv.freeze(h:Inv c G s a w)(id:Nat):∃ G',Inv c G' (s.freeze id) a w:=by
 unfold af.freeze
 split
 .rename_i e τ xs aW
  have ho:=h.aH id _ aW
  rw[ya]
  simp only[VJ]
  exact⟨_,h.fix id _ (Ze id _) (λ b=>dS (G.η id)=some b) (λ b hb=>by
   obtain⟨q1,_,q3⟩:=h.place id _ b aW hb
   exact⟨q1,q3,λ i o hi cm vb=>hi (h.apart i id o _ b cm aW vb hb),λ i τ xs _ k q=>(h.aT.pl i τ xs b k q).2.2.2 id _ aW hb⟩)
   λ lk' hs v x hv=>C1.DE aW ho (λ _ hb => .inl hb) (λ _ hb => .inr hb) hs hv⟩
 .rename_i τ xs aW
  rw[x9]
  simp only[VI]
  exact⟨_,h.fix id _ (Zd id _) (λ b=>b∈G.φ id) (λ b hb=>by
   obtain⟨q1,_,q3,q4⟩:=h.aT.pl id _ _ b aW hb
   exact⟨q1,q3,λ i o _ cm=>q4 i o cm,λ i τ xs hi k q=>hi (h.aT.ap i id _ _ _ _ b k aW q hb)⟩)
   λ lk' hs v x hv=>C1.A2 aW (h.aT.tr id _ _ aW) (λ _ hb => .inl hb) (λ _ hb => .inr hb) hs hv⟩
 .exact⟨G,h⟩
theorem Inv.BL:∀ (l:List Nat) {G:Gh} {s:af},Inv c G s a w->∃ G',Inv c G' (l.foldl af.freeze s) a w
 | [],G,s,h=>⟨G,h⟩
 | i::r,G,s,h=>by
  obtain⟨G',h'⟩:=h.freeze i
  exact Inv.BL r h'
theorem C8{lk:Nat->Option av}{v:AV}{x:Value}{K:Prop}(hv:VR c G lk w v x)(h:known v K):K:=by
 unfold known at h
 split at h
 .rename_i n
  obtain⟨_,h1,h2⟩:=hv
  refine h ⟨?_,?_⟩
  .have:=h1;simp only[IntKind.min,IntKind.signed,IntKind.bits,a7O] at this;omega
  .have:=h2;simp only[IntKind.max,IntKind.signed,IntKind.bits,a7O] at this;omega
 .rename_i t xs
  obtain⟨_,_,_,_,h1,_⟩:=nN hv
  exact h h1
 .rename_i xs
  obtain⟨s,_,h2,h3⟩:=hv
  subst h2
  exact h (by rw[a6y];exact h3)
 .exact h
theorem a1w{l:List Operand}{u v:AV}{ev:Operand->AV}(h:l.map ev=[u,v]){lk:Nat->Option av}(cY:∀ x,VR c G lk w (ev x) (a.eval x)):∃ x y,l.map a.eval=[x,y]/\VR c G lk w u x/\VR c G lk w v y:=by
 have:=aN.pG cY l
 rw[h] at this
 match hl:l.map a.eval,this with
 | [x,y],hh=>exact⟨x,y,rfl,hh.1,hh.2.1⟩
theorem Ez(hE:bJ c.P c.E)(h:Inv c G s a w){o:Oper}{T:TypeId}{m k x:Operand}(bw:o.op = .mapUpdate T m k x\/o.op = .insert T m k x){vc:Vc}{s':af}(he:LN c.E s o.dst T m k x=some (vc,s'))(eJ:vc.ok){Q:Exit->Act->World->Prop} :
  o.wp c.P a w (λ a' w'=>∃ G',Inv c G' s' a' w') Q:=by
 cases he
theorem Tx(hE:bJ c.P c.E)(h:Inv c G s a w){o:Oper}{vc:Vc}{s':af}(he:P2 c.E s o=some (vc,s'))(eJ:vc.ok){Q:Exit->Act->World->Prop} :
  o.wp c.P a w (λ a' w'=>∃ G',Inv c G' s' a' w') Q:=by
 unfold P2 at he
 split at he
 .rename_i bw
  exact Ez hE h (.inl bw) he eJ
 .rename_i bw
  exact Ez hE h (.inr bw) he eJ
 .rename_i T ad x bw
  split at he
  .rename_i τ r hT
   have hp:=bp h ad
   have hx:=bp h x
   have fin:∀ w' G1 (s1:af),(Instr.storeAt T (a.eval ad) (a.eval x)).run c.P w = .ok () w'->Inv c G1 s1 a w'->s'=s1.put o.dst .any->o.wp c.P a w (λ a' w'=>∃ G',Inv c G' s' a' w') Q:=by
    intro w' G1 s1 hr hi hs
    unfold Oper.wp
    have:(execOp a.eval o).run c.P w = .ok .skip w':=by simp only[execOp,bw,a6d,hr,a5S,a6e]
    rw[this]
    refine⟨G1,?_⟩
    rw[hs]
    exact Inv.put hi trivial
   split at he
   .rename_i id off cY
    split at he
    .rename_i cs aW
     split at he
     .rename_i new rH
      split at he
      .rename_i dJ B4
       simp only[a5E,a5H] at he
       obtain⟨rfl,rfl⟩:=he
       rw[cY] at hp
       obtain⟨w',k1,k2⟩:=h.store hE hT aW hp ⟨_,rH,hx⟩ B4
       exact fin w' _ _ k1 k2 rfl
      .cases he
     .cases he
    .cases he
   .rename_i id i cY
    split at he
    .rename_i e' aZ xs aW
     split at he
     .rename_i y kR hy
      have kR:=a6f kR
      subst kR
      simp only[a5E,a5H] at he
      obtain⟨rfl,rfl⟩:=he
      rw[cY] at hp
      obtain⟨w',k1,k2⟩:=h.Ws hE hT aW hp hx hy
      exact fin w' _ _ k1 k2 rfl
     .cases he
    .cases he
   .cases he
  .cases he
 .rename_i cl bw
  split at he
  .rename_i kQ
   split at he
   .rename_i d T T' hd Qa
    split at he
    .rename_i τ b e MP hT
     have MP:=a5F MP
     subst MP
     split at he
     .rename_i id y gb
      split at he
      .rename_i e' aZ xs ys aW hy
       split at he
       .rename_i cX yg np
        have yg:=a5F yg
        have e1:=TV.bd np
        cases e1
        subst yg
        simp only[a5E,a5H] at he
        obtain⟨rfl,rfl⟩:=he
        obtain⟨x,z,m1,m2,m3⟩:=a1w (a:=a) (c:=c) (G:=G) (w:=w) gb (bp h)
        obtain⟨v',w',G',k1,k2⟩:=h.append hE hT (d:=d) aW m2 m3 hy eJ o.type
        have Hk:cl.argTypes = #[T,T]:=by rw[<-a6K (xs:=cl.argTypes),Qa]
        have Hy:cl.args.map a.eval = #[x,z]:=by rw[<-a6K (xs:=cl.args.map a.eval),a7P,m1]
        unfold Oper.wp
        have:(execOp a.eval o).run c.P w = .ok (.value v') w':=by
         simp[execOp,bw,resolve,kQ,invoke,builtin,Hk,Hy,k1]
        rw[this]
        refine⟨G',?_⟩
        rw[hd]
        exact k2
       .cases he
      .cases he
     .cases he
    .cases he
   .cases he
  .cases he
 .cases he
theorem Um(hE:bJ c.P c.E)(h:Inv c G s a w){o0:Oper}{vc:Vc}{v:AV}{ob:Option av}(he:QD c.E s o0=some (vc,v,ob))(eJ:vc.ok){Q:Exit->Act->World->Prop} :
  o0.wp c.P a w (vT c G s.sl s.aw.length s.ae o0.dst a w v ob) Q:=by
 unfold QD at he
 split at he
 case h_2=>cases he
 case h_1 cl bw =>
 split at he
 case h_2=>cases he
 case h_1 f kQ =>
 split at he
 case h_2=>cases he
 case h_1 d hd =>
 split at he
 case h_2=>cases he
 case h_1 Z9 has =>
 have key:∀ pre o,c.E.Nw f Z9=some (pre,o)->pre.ok->o0.wp c.P a w (λ a' w'=>∃ x S',a'=a.put o0.dst x/\bn c ⟨S',G.η,G.φ⟩ s.sl s.aw.length s.ae a w' /\
   (∀ b,dS x=some b->w.heap.size<=b/\b<w'.heap.size/\¬ S' b)/\WG w' S' x o) Q:=λ pre o hc eJ=>by
  obtain⟨tK,pM⟩:=hE.Nw f Z9 pre o hc eJ
  unfold Oper.wp
  rw[lB bw kQ rfl tK]
  simp only[Oper.upon]
  refine (pM w G.S _ h.Wk (jw hE h (zM (λ _ _ h=>h)) (λ _ h=>h) (λ τ v x y h1 h2=>xH zN w9 h1 h2) has (aN.pG (bp h) _))).mono ?_
  rintro e w' ⟨x,S',rfl,hk,Zl,Zm,hb,hx⟩
  exact⟨x,S',rfl,bn.grow h hk Zl Zm,hb,hx⟩
 split at he
 case h_3=>cases he
 case h_1 pre cells hc =>
  simp only[a5E,a5H] at he
  obtain⟨rfl,rfl,rfl⟩:=he
  refine a7r ?_ (key _ _ hc eJ)
  rintro a' w' ⟨x,S',rfl,hI,hb,b,l,t,rfl,hh,mD⟩
  exact⟨_,S',rfl,hI,⟨d,hd,rfl⟩,⟨b,l,t,rfl,hh,aN.eB _ (mD.imp λ u y _ hy=>hy)⟩,hb⟩
 case h_2 pre e τ xs hc =>
  simp only[a5E,a5H] at he
  obtain⟨rfl,rfl,rfl⟩:=he
  refine a7r ?_ (key _ _ hc eJ)
  rintro a' w' ⟨x,S',rfl,hI,hb,l,h1,h2,h3⟩
  exact⟨_,S',rfl,hI,⟨d,hd,rfl⟩,⟨l,h1,h2,h3⟩,hb⟩
theorem H5(hE:bJ c.P c.E)(h:Inv c G s a w){o:Oper}{K:af->Prop}(hr:mM c.E o K s){Q:Exit->Act->World->Prop} :
  o.wp c.P a w (λ a' w'=>∃ G' s',Inv c G' s' a' w'/\K s') Q:=by
 unfold mM at hr
 split at hr
 .exact hr.elim
 rename_i Fw
 obtain⟨G1,h1⟩:=h.BL (mA c.E s o)
 generalize (mA c.E s o).foldl af.freeze s=s1 at *
 simp only at hr
 split at hr
 .rename_i vc s' he
  exact a7r (λ a' w' ⟨G',hg⟩=>⟨G',s',hg,(Vc.lN hr).2⟩) (Uy hE h1 he (Vc.lN hr).1)
 split at hr
 .rename_i vc s' he
  exact a7r (λ a' w' ⟨G',hg⟩=>⟨G',s',hg,(Vc.lN hr).2⟩) (Tq hE h1 he (Vc.lN hr).1)
 split at hr
 .rename_i vc s' he
  exact a7r (λ a' w' ⟨G',hg⟩=>⟨G',s',hg,(Vc.lN hr).2⟩) (Tx hE h1 he (Vc.lN hr).1)
 .split at hr
  .rename_i vc s' he
   exact a7r (λ a' w' ⟨G',hg⟩=>⟨G',s',hg,(Vc.lN hr).2⟩) (Un hE h1 he (Vc.lN hr).1)
  split at hr
  .rename_i vc v ob he
   refine a7r ?_ (Um hE h1 he (Vc.lN hr).1)
   intro a' w' hd
   obtain⟨G',hl⟩:=Nk h1 Fw hd
   exact⟨G',_,hl,(Vc.lN hr).2⟩
  .split at hr
   .rename_i vc v ob hq
    obtain⟨eJ,hk⟩:=Vc.lN hr
    refine a7r ?_ (F4 hE h1 (λ _ _ h=>h) (bp h1) hq eJ)
    intro a' w' hd
    obtain⟨G',hl⟩:=Nk h1 Fw hd
    refine⟨G',_,hl,?_⟩
    split at hk
    .obtain⟨x,S',_,_,hx⟩:=hd
     cases ob with
     | none=>exact C8 hx hk
     | some ob =>
      obtain⟨hL,_⟩:=hx
      cases ob with
      | box cs=>obtain⟨i,_,rfl⟩:=hL;exact hk
      | row e τ xs=>obtain⟨i,_,rfl⟩:=hL;exact hk
      | aB τ xs=>exact hL.elim
      | map m=>obtain⟨i,_,rfl⟩:=hL;exact hk
    .exact hk
   .exact hr.elim
theorem TL{t:Array Value}{i:Nat}{b:Bool}(h:t.getD i undef = .bool b):t[i]?=some (.bool b):=by
 rw[a6s] at h
 cases hx:t[i]? with
 | none=>rw[hx] at h;simp[undef] at h
 | some v=>rw[hx] at h;simpa using h
theorem Fv{ops:Array Oper}{g t:Nat}{b:Bool}(ht:va ops g=some t)(hx:VR c G s.ae w (.aS ⟨.bool,b⟩) (a.eval (.tmp t))):yielded ops a.tmps g=some b:=by
 have hb:[a.eval (.tmp t)]=[.bool b]:=hx
 simp only[a5L,a5R] at hb
 have:=TL hb
 unfold yielded
 rw[show (ops[g]?).bind (·.dst)=some t from ht]
 simp[this]
theorem BR{ops:Array Oper}{g t:Nat}(ht:va ops g=some t)(hx:VR c G s.ae w .eC (a.eval (.tmp t))):yielded ops a.tmps g=none:=by
 have hb:a.eval (.tmp t)=undef:=hx
 have hb:a.tmps.getD t undef=undef:=hb
 unfold yielded
 rw[show (ops[g]?).bind (·.dst)=some t from ht]
 rw[a6s] at hb
 cases hx:a.tmps[t]? with
 | none=>simp[hx]
 | some v =>
  rw[hx] at hb
  have hv:v=undef:=hb
  subst hv
  simp[hx,undef]
theorem Inv.slot(h:Inv c G s a w)(t:Nat){b b':Bool}(he:s.eval (.tmp t) = .aS ⟨.bool,b⟩)(hb:b=b'):Inv c G (s.put (some t) (.aS ⟨.bool,b'⟩)) a w:=by
 have:s.put (some t) (.aS ⟨.bool,b'⟩)=s\/(s.put (some t) (.aS ⟨.bool,b'⟩)).sl=s.sl:=by
  right
  rw[Vn]
  funext i
  unfold lL
  split
  .rename_i hi
   obtain⟨h1,h2⟩:=hi
   simp only[a5E] at h1
   subst h1
   rw[<-hb,<-he]
   rfl
  .rfl
 rcases this with e|e
 .rw[e];exact h
 .unfold Inv
  rw[e,Ph,KA]
  exact h
theorem y8(hE:bJ c.P c.E){ops:Array Oper}{Q:af->Prop}{o:Oper}{r:List Oper}{kn:List (Nat×Bool)}(h:Inv c G s a w)(hr:fv c.E ops (o::r) kn Q s) :
  if Region.wanted o (yielded ops a.tmps)=true then ∀ Q':Exit->Act->World->Prop,o.wp c.P a w (λ a' w'=>∃ G' s' pN,Inv c G' s' a' w'/\fv c.E ops r pN Q s') Q'
  else ∃ G' s' pN,Inv c G' s' (a.put o.dst undef) w/\fv c.E ops r pN Q s':=by
 have run:∀ (kn:List (Nat×Bool)) (s:af),Inv c G s a w->mM c.E o (fv c.E ops r kn Q) s->∀ Q':Exit->Act->World->Prop,o.wp c.P a w (λ a' w'=>∃ G' s' pN,Inv c G' s' a' w'/\fv c.E ops r pN Q s') Q':=λ kn s hs cS Q' =>
  a7r (λ a' w' ⟨G',s',h1,h2⟩=>⟨G',s',kn,h1,h2⟩) (H5 hE hs cS)
 have skip:∀ (kn:List (Nat×Bool)) (s:af),Inv c G s a w->fv c.E ops r kn Q (s.put o.dst .eC)->∃ G' s' pN,Inv c G' s' (a.put o.dst undef) w/\fv c.E ops r pN Q s':=λ kn s hs hk =>
  ⟨G,_,kn,Inv.put (v := .eC) hs rfl,hk⟩
 simp only[fv] at hr
 split at hr
 .rename_i hg
  have hw:Region.wanted o (yielded ops a.tmps)=true:=by simp[Region.wanted,hg]
  rw[a5T hw]
  exact run kn s h hr
 .rename_i g want hg
  split at hr
  .exact hr.elim
  .rename_i t ht
   split at hr
   .rename_i b hb
    split at hr
    .rename_i b' cY
     have hx:=bp h (.tmp t)
     rw[cY] at hx
     have hy:=Fv (s:=s) ht hx
     split at hr
     .rename_i jG BU
      have jG:=eq_of_beq jG
      subst jG
      have hw:Region.wanted o (yielded ops a.tmps)=true:=by simp[Region.wanted,hg,hy];simpa using BU
      rw[a5T hw]
      exact run kn s h hr
     .rename_i jG BU
      have jG:=eq_of_beq jG
      subst jG
      have hw:Region.wanted o (yielded ops a.tmps)=false:=by simp[Region.wanted,hg,hy];simpa using BU
      rw[hw]
      exact skip kn s h hr
     .exact hr.elim
    .rename_i cY
     have hx:=bp h (.tmp t)
     rw[cY] at hx
     have hy:=BR (s:=s) ht hx
     have hw:Region.wanted o (yielded ops a.tmps)=false:=by simp[Region.wanted,hg,hy]
     rw[hw]
     exact skip kn s h hr
    .exact hr.elim
   .split at hr
    .rename_i b cY
     have hx:=bp h (.tmp t)
     rw[cY] at hx
     have hy:=Fv (s:=s) ht hx
     by_cases BU:b=want
     .have hw:Region.wanted o (yielded ops a.tmps)=true:=by simp[Region.wanted,hg,hy,BU]
      rw[a5T hw]
      exact run _ _ (h.slot t cY BU) (hr.1 BU)
     .have TT:b = !want:=by cases b<;>cases want<;>simp_all
      have hw:Region.wanted o (yielded ops a.tmps)=false:=by simp[Region.wanted,hg,hy,TT]
      rw[hw]
      exact skip _ _ (h.slot t cY TT) (hr.2 TT)
    .rename_i cY
     have hx:=bp h (.tmp t)
     rw[cY] at hx
     have hy:=BR (s:=s) ht hx
     have hw:Region.wanted o (yielded ops a.tmps)=false:=by simp[Region.wanted,hg,hy]
     rw[hw]
     exact skip kn s h hr
    .exact hr.elim
theorem xj(hE:bJ c.P c.E){ops:Array Oper}{Q:af->Prop}{Q':Exit->Act->World->Prop}(hQ:∀ G s a w,Inv c G s a w->Q s->Q' .normal a w) :
  ∀ (r:List Oper) (i:Nat) (kn:List (Nat×Bool)) (G:Gh) (s:af) (a:Act) (w:World),(∀ j o,r[j]?=some o->ops[i+j]?=some o)->Inv c G s a w->fv c.E ops r kn Q s->wpOps c.P ops Q' (List.range' i r.length) a w
 | [],i,kn,G,s,a,w,_,h,hr=>hQ G s a w h hr
 | o::r,i,kn,G,s,a,w,a0N,h,hr=>by
  have ho:ops[i]?=some o:=a0N 0 o rfl
  have vf:∀ j p,r[j]?=some p->ops[i+1+j]?=some p:=λ j p hj=>by
   have:=a0N (j+1) p (by simpa using hj)
   rwa [show i+(j+1)=i+1+j by omega] at this
  simp only[a5O,List.range'_succ,wpOps,ho]
  have vi:=y8 hE h hr
  split at vi
  .rename_i hw
   rw[a5T hw]
   exact .inl (a7r (λ a' w' ⟨G',s',pN,h1,h2⟩=>xj hE hQ r (i+1) pN G' s' a' w' vf h1 h2) (vi Q'))
  .rename_i hw
   rw[a5J hw]
   obtain⟨G',s',pN,h1,h2⟩:=vi
   exact xj hE hQ r (i+1) pN G' s' _ w vf h1 h2
end
end Go.Proofs.YtnehkikdlnmebaaGreatDoor

namespace Go.Proofs.YtnehkikdlnmebaaGreatDoor
structure II where
 D0:Bool
 v:AV
 ob:Option av
def GV(want D0:Bool):AV->Prop
 | .aS ⟨.bool,b⟩=>D0=(b == want)
 | .eC=>D0=false
 | _=>False
def gJ(l:List Oper)(bits:Nat)(s:af)(o:Oper)(D0:Bool):Prop :=
 match o.guard with
 | none=>D0=true
 | some (g,want)=>∃ t v,cj l g=some t/\Nat.testBit bits g=true/\s.eval (.tmp t)=v/\GV want D0 v
def LY(E:Env)(l:List Oper)(m bits:Nat)(s:af)(o:Oper)(e:II):Prop :=
 gJ l bits s o e.D0/\(e.D0=true->∃ vc:Vc,F0 E (Ld l m bits s) (Oo l m bits s) o=some (vc,e.v,e.ob)/\vc.ok)/\(e.D0=false->e.v = .eC/\e.ob=none)
def Trace(E:Env)(l:List Oper)(m:Nat)(bT:List Nat):Nat->List Oper->List II->af->af->Prop
 | _,[],[],s,s'=>s=s'
 | i,o::r,e::es,s,s'=>LY E l m (bT.getD i 0) s o e/\Trace E l m bT (i+1) r es (s.lu o.dst e.v e.ob) s'
 | _,_,_,_,_=>False
theorem Pp{s:af}{t:Nat}{v:AV}(h:s.eval (.tmp t)=v)(hv:v ≠ .any):s.put (some t) v=s:=by
 have bF:t<s.aw.length:=by
  rcases a6w t s.aw.length with hl|hl
  .exact hl
  .simp only[af.eval,a6o,a9x hl,Option.getD_none] at h
   exact absurd h.symm hv
 simp only[af.eval,a6o,a5V bF,a8u] at h
 simp only[af.put]
 congr 1
 subst h
 exact List.set_getElem_self bF
theorem Jj(s:af)(d:Option Nat):s.lu d .eC none=s.put d .eC:=by cases d<;>rfl
theorem sE{E:Env}{l:List Oper}{m:Nat}{bT:List Nat}{Q:List (Nat×Bool)->af->Prop}:∀ {r:List Oper} {i:Nat} {kn:List (Nat×Bool)} {s:af},n7 E l m bT i r kn Q s ->
  ∃ es pN s',Trace E l m bT i r es s s'/\Q pN s'
 | [],i,kn,s,h=>⟨[],kn,s,rfl,h⟩
 | o::r,i,kn,s,h=>by
  have run:∀ kn,gJ l (bT.getD i 0) s o true->H6 E l m (bT.getD i 0) o (n7 E l m bT (i+1) r kn Q) s->∃ es pN s',Trace E l m bT i (o::r) es s s'/\Q pN s':=by
   intro kn hg hr
   unfold H6 at hr
   split at hr
   .split at hr
    .rename_i vc v ob hq
     obtain⟨es,pN,s',h1,h2⟩:=sE (Vc.lN hr).2
     exact⟨⟨true,v,ob⟩::es,pN,s',⟨⟨hg,λ _=>⟨vc,hq,(Vc.lN hr).1⟩,λ h=>(by cases h)⟩,h1⟩,h2⟩
    .exact hr.elim
   .exact hr.elim
  have skip:∀ kn,gJ l (bT.getD i 0) s o false->n7 E l m bT (i+1) r kn Q (s.put o.dst .eC)->∃ es pN s',Trace E l m bT i (o::r) es s s'/\Q pN s':=by
   intro kn hg hr
   obtain⟨es,pN,s',h1,h2⟩:=sE hr
   exact⟨⟨false, .eC,none⟩::es,pN,s',⟨⟨hg,λ h=>(by cases h),λ _=>⟨rfl,rfl⟩⟩,by rw[Jj];exact h1⟩,h2⟩
  simp only[n7] at h
  split at h
  .rename_i hg
   exact run kn (by simp[gJ,hg]) h
  .rename_i g want hg
   split at h
   .rename_i t ht O9
    split at h
    .rename_i b hb
     split at h
     .rename_i b' cY
      split at h
      .rename_i jG BU
       have jG:=eq_of_beq jG
       subst jG
       exact run kn (by simp only[gJ,hg];exact⟨t,_,ht,O9,cY,BU.symm⟩) h
      .rename_i jG BU
       have jG:=eq_of_beq jG
       subst jG
       exact skip kn (by simp only[gJ,hg];exact⟨t,_,ht,O9,cY,BU.symm⟩) h
      .exact h.elim
     .rename_i cY
      exact skip kn (by simp only[gJ,hg];exact⟨t,_,ht,O9,cY,rfl⟩) h
     .exact h.elim
    .split at h
     .rename_i b cY
      by_cases BU:b=want
      .have h':=h.1 BU
       subst BU
       rw[Pp cY (by simp)] at h'
       exact run _ (by simp only[gJ,hg];exact⟨t,_,ht,O9,cY,by simp[GV]⟩) h'
      .have TT:b = !want:=by cases b<;>cases want<;>simp_all
       have h':=h.2 TT
       rw[<-TT,Pp cY (by simp)] at h'
       exact skip _ (by simp only[gJ,hg];exact⟨t,_,ht,O9,cY,by simpa [GV] using BU⟩) h'
     .rename_i cY
      exact skip kn (by simp only[gJ,hg];exact⟨t,_,ht,O9,cY,rfl⟩) h
     .exact h.elim
   .exact h.elim
def dR(l:List Oper)(es:List II)(s0:af)(π:List Nat):af :=
 π.foldl (λ s k=>s.lu (cj l k) (es.getD k ⟨false, .any,none⟩).v (es.getD k ⟨false, .any,none⟩).ob) s0
theorem Jk(s:af)(d:Option Nat)(v:AV)(o:Option av):(s.lu d v o).aw.length=s.aw.length:=by cases d<;>simp[af.lu]
theorem HE(l:List Oper)(es:List II):∀ (π:List Nat) (s0:af),(dR l es s0 π).aw.length=s0.aw.length
 | [],_=>rfl
 | k::π,s0=>by
  show (dR l es (s0.lu _ _ _) π).aw.length=_
  rw[HE l es π,Jk]
theorem H8(s:af)(d:Option Nat)(v:AV)(o:Option av):(s.lu d v o).sl=lL s.aw.length s.sl d v:=by
 cases d with
 | none=>funext i;simp[af.lu,lL]
 | some d=>exact rv s.aw d v _
theorem zJ(s:af)(d:Option Nat)(v:AV)(o:Option av)(j:Nat):(s.lu d v o).ae j=if d=some j then (match o with
  | some o=>some o
  | none=>s.ae j) else s.ae j:=by
 cases d with
 | none=>simp[af.lu]
 | some d =>
  cases o with
  | none =>
   simp only[af.lu,af.ae,ite_self]
  | some o =>
   show ae ((d,o)::s.aH) j=_
   rw[dE]
   by_cases h:j=d
   .subst h;simp
   .have:¬ (some d=some j):=by simp;exact λ e=>h e.symm
    rw[a5J h,a5J this];rfl
theorem hH(l:List Oper)(es:List II)(t:Nat):∀ (π:List Nat) (s0:af),(∀ k∈π,cj l k≠some t)->(dR l es s0 π).sl t=s0.sl t/\(dR l es s0 π).ae t=s0.ae t
 | [],_,_=>⟨rfl,rfl⟩
 | k::π,s0,h=>by
  obtain⟨h1,h2⟩:=hH l es t π (s0.lu (cj l k) (es.getD k ⟨false, .any,none⟩).v (es.getD k ⟨false, .any,none⟩).ob) (λ j hj=>h j (by simp[hj]))
  have hk:=h k (by simp)
  constructor
  .show (dR l es (s0.lu _ _ _) π).sl t=_
   rw[h1,H8,lL,a5J (λ hh=>hk hh.1)]
  .show (dR l es (s0.lu _ _ _) π).ae t=_
   rw[h2,zJ,a5J hk]
theorem vL(l:List Oper)(es:List II)(t k:Nat)(hk:cj l k=some t):∀ (π:List Nat) (s0:af),k∈π->π.Nodup->(∀ j∈π,j≠k->cj l j≠some t) ->
  (dR l es s0 π).sl t=(if t<s0.aw.length then (es.getD k ⟨false, .any,none⟩).v else s0.sl t) /\
  (dR l es s0 π).ae t=(match (es.getD k ⟨false, .any,none⟩).ob with
   | some o=>some o
   | none=>s0.ae t)
 | [],_,h,_,_=>by simp at h
 | j::π,s0,h,hn,ho=>by
  have uy:=a6m.1 hn
  by_cases hj:j=k
  .subst hj
   obtain⟨h1,h2⟩:=hH l es t π (s0.lu (cj l j) (es.getD j ⟨false, .any,none⟩).v (es.getD j ⟨false, .any,none⟩).ob) (λ i hi=>ho i (by simp[hi]) (λ e=>by subst e;exact uy.1 hi))
   constructor
   .show (dR l es (s0.lu _ _ _) π).sl t=_
    rw[h1,H8,lL]
    simp[hk]
   .show (dR l es (s0.lu _ _ _) π).ae t=_
    rw[h2,zJ,a5T hk]
  .have Hs:=ho j (by simp) hj
   obtain⟨h1,h2⟩:=vL l es t k hk π (s0.lu (cj l j) (es.getD j ⟨false, .any,none⟩).v (es.getD j ⟨false, .any,none⟩).ob) (by simpa [Ne.symm hj] using h) uy.2 (λ i hi=>ho i (by simp[hi]))
   constructor
   .show (dR l es (s0.lu _ _ _) π).sl t=_
    rw[h1,Jk,H8,lL,a5J (c:=cj l j=some t/\_) (λ hh=>Hs hh.1)]
   .show (dR l es (s0.lu _ _ _) π).ae t=_
    rw[h2]
    split
    .rfl
    .rw[zJ,a5J Hs]
theorem NX{l:List Oper}{es:List II}{m bits:Nat}{s0:af}{π π':List Nat}(qC:∀ j k t,j<m->k<m->cj l j=some t->cj l k=some t->j=k)
  (Uc:∀ k∈π,k<m) (Nc:∀ k∈π',k<m) (hn:π.Nodup) (uy:π'.Nodup) (ha:∀ k,k<m->Nat.testBit bits k=true->k∈π/\k∈π') (t:Nat) (hh:hidden l m bits t=false) :
  (dR l es s0 π).sl t=(dR l es s0 π').sl t/\(dR l es s0 π).ae t=(dR l es s0 π').ae t:=by
 by_cases hex:∃ k,k<m/\cj l k=some t
 .obtain⟨k,hk,hd⟩:=hex
  have hb:Nat.testBit bits k=true:=by
   have:=hh
   unfold hidden at this
   rw[a7i] at this
   have:=this k (by simpa using hk)
   simp only[hd] at this
   simp only[a9j] at this
   simpa using this
  obtain⟨h1,h2⟩:=ha k hk hb
  obtain⟨e1,e2⟩:=vL l es t k hd π s0 h1 hn (λ j hj dU A5=>dU (qC j k t (Uc j hj) hk A5 hd))
  obtain⟨e3,e4⟩:=vL l es t k hd π' s0 h2 uy (λ j hj dU A5=>dU (qC j k t (Nc j hj) hk A5 hd))
  exact⟨e1.trans e3.symm,e2.trans e4.symm⟩
 .have l6:∀ k,k<m->cj l k≠some t:=λ k hk hd=>hex ⟨k,hk,hd⟩
  obtain⟨e1,e2⟩:=hH l es t π s0 (λ k hk=>l6 k (Uc k hk))
  obtain⟨e3,e4⟩:=hH l es t π' s0 (λ k hk=>l6 k (Nc k hk))
  exact⟨e1.trans e3.symm,e2.trans e4.symm⟩
theorem CN(acc:List Nat)(k:Nat):∀ (es:List Edge) (s:Nat),Nat.testBit (es.foldl (uD acc) s) k=true->Nat.testBit s k=true\/∃ e∈es,Region.binds .any e=true/\(k=e.on\/Nat.testBit (acc.getD e.on 0) k=true)
 | [],s,h => .inl h
 | e::es,s,h=>by
  simp only[a7k] at h
  rcases CN acc k es _ h with h|⟨e',yg,h⟩
  .unfold uD at h
   split at h
   .rename_i hb
    simp only[Nat.testBit_or,a7x] at h
    rcases h with h|h|h
    .exact .inl h
    .refine .inr ⟨e,by simp,hb, .inl ?_⟩
     rw[Nat.one_shiftLeft,Nat.testBit_two_pow] at h
     exact (a6f h).symm
    .exact .inr ⟨e,by simp,hb, .inr h⟩
   .exact .inl h
  .exact .inr ⟨e',by simp[yg],h⟩
theorem vV:∀ (l:List Oper) (acc:List Nat),∃ r,bN l acc=acc++r/\r.length=l.length /\
  ∀ i o,l[i]?=some o->∀ k,Nat.testBit ((acc++r).getD (acc.length+i) 0) k=true->∃ e∈o.after.toList,Region.binds .any e=true/\(k=e.on\/(e.on<acc.length+i/\Nat.testBit ((acc++r).getD e.on 0) k=true))
 | [],acc=>⟨[],by simp[bN],rfl,by simp⟩
 | o::l,acc=>by
  simp only[bN]
  obtain⟨r,h1,h2,h3⟩:=vV l (acc++[o.after.toList.foldl (uD acc) 0])
  refine⟨_::r,by rw[h1,a6u];rfl,by simp[h2],λ i p hp k hk=>?_⟩
  cases i with
  | zero =>
   simp at hp
   subst hp
   have iR:Nat.testBit (o.after.toList.foldl (uD acc) 0) k=true:=by
    simpa [List.getD_eq_getElem?_getD] using hk
   rcases CN acc k _ 0 iR with h|⟨e,he,hb,h⟩
   .simp at h
   .refine⟨e,he,hb,h.imp id λ h=>?_⟩
    have bF:e.on<acc.length:=by
     rcases a6w e.on acc.length with hl|hl
     .exact hl
     .simp[a6o,a9x hl] at h
    refine⟨by omega,?_⟩
    rw[a6o,a7o bF,<-a6o]
    exact h
  | succ i =>
   have:=h3 i p (by simpa using hp) k (by
    have e1:(acc++[o.after.toList.foldl (uD acc) 0]).length+i=acc.length+(i+1):=by simp;omega
    rw[e1,a6u]
    exact hk)
   obtain⟨e,he,hb,h⟩:=this
   refine⟨e,he,hb,h.imp id λ ⟨h1,h2⟩=>⟨by simp at h1;omega,?_⟩⟩
   rw[a6u] at h2
   exact h2
theorem xB:∀ (l:List Nat) (i m0:Nat),m0<=i->o5 l i m0<=i+l.length/\m0<=o5 l i m0/\∀ j b,l[j]?=some b->o5 l i m0<=i+j->b+1=2 ^ (i+j)
 | [],i,m0,h=>by simp[o5];exact h
 | b::l,i,m0,h=>by
  simp only[o5]
  split
  .rename_i hb
   have hb:=a5F hb
   obtain⟨h1,h2,h3⟩:=xB l (i+1) m0 (by omega)
   refine⟨by simp;omega,h2,λ j b' hj hle=>?_⟩
   cases j with
   | zero=>simp at hj;subst hj;exact hb
   | succ j=>rw[show i+(j+1)=i+1+j by omega];exact h3 j b' (by simpa using hj) (by omega)
  .obtain⟨h1,h2,h3⟩:=xB l (i+1) (i+1) (a6b _)
   refine⟨by simp;omega,by omega,λ j b' hj hle=>?_⟩
   cases j with
   | zero=>omega
   | succ j=>rw[show i+(j+1)=i+1+j by omega];exact h3 j b' (by simpa using hj) (by omega)
end Go.Proofs.YtnehkikdlnmebaaGreatDoor

namespace Go.Proofs.YtnehkikdlnmebaaGreatDoor
theorem uH(l:List Oper)(es:List II)(s0:af)(π:List Nat)(i:Nat):dR l es s0 (π++[i])=(dR l es s0 π).lu (cj l i) (es.getD i ⟨false, .any,none⟩).v (es.getD i ⟨false, .any,none⟩).ob:=by
 simp[dR,a7X]
theorem PA{E:Env}{l:List Oper}{m:Nat}{bT:List Nat}{s0:af}:∀ (r:List Oper) (i:Nat) (es xl:List II) (s s':af),Trace E l m bT i r es s s'->(∀ j o,r[j]?=some o->l[i+j]?=some o)->xl.length=i ->
  s=dR l (xl++es) s0 (List.range i) ->
  (∀ j o,r[j]?=some o->LY E l m (bT.getD (i+j) 0) (dR l (xl++es) s0 (List.range (i+j))) o ((xl++es).getD (i+j) ⟨false, .any,none⟩))/\s'=dR l (xl++es) s0 (List.range (i+r.length))
 | [],i,[],xl,s,s',h,_,_,hs=>by
  have h:s=s':=h
  subst h
  exact⟨by simp,by simpa using hs⟩
 | o::r,i,e::es,xl,s,s',h,hl,h0,hs=>by
  obtain⟨h1,h2⟩:=h
  have ho:l[i]?=some o:=hl 0 o rfl
  have R7:(xl++e::es).getD i ⟨false, .any,none⟩=e:=by simp[a6o,<-h0]
  have cp:s.lu o.dst e.v e.ob=dR l ((xl++[e])++es) s0 (List.range (i+1)):=by
   rw[a6u,List.range_succ,uH,a8o,R7,<-hs]
   simp[cj,ho]
  have ih:=PA r (i+1) es (xl++[e]) _ s' h2 (λ j p hj=>by
   have:=hl (j+1) p (by simpa using hj)
   rwa [show i+(j+1)=i+1+j by omega] at this) (by simp[h0]) cp
  rw[a6u,a8o] at ih
  refine⟨λ j p hj=>?_,by rw[ih.2];congr 2;simp;omega⟩
  cases j with
  | zero =>
   simp at hj
   subst hj
   rw[a7D,R7,<-hs]
   exact h1
  | succ j =>
   have:=ih.1 j p (by simpa using hj)
   rwa [show i+1+j=i+(j+1) by omega] at this
 | [],_,_::_,_,_,_,h,_,_,_=>h.elim
 | _::_,_,[],_,_,_,h,_,_,_=>h.elim
theorem uG:∀ (m:Nat) (π:List Nat),π.Nodup->(∀ k∈π,k<m)->π.length<=m
 | 0,π,_,h=>by
  cases π with
  | nil=>simp
  | cons k r=>exact absurd (h k (by simp)) (by omega)
 | m+1,π,hn,h=>by
  by_cases hm:m∈π
  .have h1:=uG m (π.erase m) (hn.erase m) (λ k hk=>by
    have h2:=(hn.mem_erase_iff).1 hk
    have:=h k h2.2
    have:=h2.1
    omega)
   have h3:=a7I hm
   have:0<π.length:=a7S hm
   omega
  .have:=uG m π hn (λ k hk=>by
    have:=h k hk
    have:k≠m:=λ e=>by subst e;exact hm hk
    omega)
   omega
section
variable {c:Ctx} {G:Gh} {s:af} {a:Act} {w w':World}
theorem C1.dW{lk:Nat->Option av}{v:AV}{x:Value}(h:C1 c G lk w v x){d:Nat}(hr:v.refs d=true):lk d≠none:=by
 cases v with
 | ptr i o =>
  have:=a5F (show Nat.beq i d=true from hr)
  subst this
  obtain⟨_,_,_,h3⟩:=h
  intro e
  rw[e] at h3
  cases h3
 | row i =>
  have:=a5F (show Nat.beq i d=true from hr)
  subst this
  obtain⟨_,h3,_⟩:=h
  intro e
  rw[e] at h3
  cases h3
 | ei i k o =>
  have:=a5F (show Nat.beq i d=true from hr)
  subst this
  obtain⟨_,_,_,_,_,_,_,h3,_⟩:=h
  intro e
  rw[e] at h3
  cases h3
 | aB i =>
  have:=a5F (show Nat.beq i d=true from hr)
  subst this
  intro e
  have h1:=h.1
  rw[e] at h1
  cases h1
 | sub i k o z =>
  have:=a5F (show Nat.beq i d=true from hr)
  subst this
  intro e
  have h1:=h.1
  rw[e] at h1
  cases h1
 | eH i k o z =>
  have:=a5F (show Nat.beq i d=true from hr)
  subst this
  intro e
  have h1:=h.1
  rw[e] at h1
  cases h1
 | mp i =>
  have:=a5F (show Nat.beq i d=true from hr)
  subst this
  intro e
  have h1:=h.2.1
  rw[e] at h1
  cases h1
 | agg cs=>exact h.elim
 | j8 cs=>exact h.elim
 | di f cs=>exact h.elim
 | _=>cases hr
theorem qp{d:Nat}:∀ {cs:List AV},AV.gI d cs=true->∃ v∈cs,v.refs d=true
 | v::r,h=>by
  simp only[AV.gI] at h
  split at h
  .rename_i hv;exact⟨v,by simp,hv⟩
  .obtain⟨u,hu,hr⟩:=qp h
   exact⟨u,by simp[hu],hr⟩
theorem aN.mem_left{α β:Type}{R:α->β->Prop}:∀ {Z9:List α} {bs:List β},aN R Z9 bs->∀ x∈Z9,∃ y,R x y
 | _::_,b::_,h,x,hx=>by
  rcases a5P.1 hx with rfl|hx
  .exact⟨b,h.1⟩
  .exact aN.mem_left h.2 x hx
theorem VR.dW{lk:Nat->Option av}{v:AV}{x:Value}(h:VR c G lk w v x){d:Nat}(hr:v.refs d=true):lk d≠none:=by
 cases v with
 | aS u=>cases hr
 | agg cs =>
  obtain⟨l,_,hl⟩:=h
  obtain⟨u,hu,B6⟩:=qp (show AV.gI d cs=true from hr)
  obtain⟨y,hy⟩:=hl.mem_left u hu
  exact hy.dW B6
 | j8 vs =>
  obtain⟨l,_,hl⟩:=h
  obtain⟨u,hu,B6⟩:=qp (show AV.gI d vs=true from hr)
  obtain⟨y,hy⟩:=hl.mem_left u hu
  cases u with
  | aB i=>exact C1.dW (c:=c) (G:=G) (w:=w) (v := .aB i) hy B6
  | agg cs =>
   obtain⟨l,_,hl⟩:=hy
   obtain⟨u,hu,B6⟩:=qp (show AV.gI d cs=true from B6)
   obtain⟨y,hy⟩:=hl.mem_left u hu
   exact hy.dW B6
  | _=>first|(cases B6;done)|exact hy.elim
 | di f vs =>
  obtain⟨l,_,hl⟩:=h
  obtain⟨u,hu,B6⟩:=qp (show AV.gI d vs=true from hr)
  obtain⟨y,hy⟩:=hl.mem_left u hu
  rcases hy.inv with ⟨v,rfl,_⟩|⟨cs,l,rfl,_,hl⟩|h1
  .cases B6
  .obtain⟨u,hu,B6⟩:=qp (show AV.gI d cs=true from B6)
   obtain⟨y,hy⟩:=hl.mem_left u hu
   exact hy.dW B6
  .exact h1.dW B6
 | ptr i o=>exact C1.dW (c:=c) (G:=G) (w:=w) (v := .ptr i o) h hr
 | row i=>exact C1.dW (c:=c) (G:=G) (w:=w) (v := .row i) h hr
 | ei i k o=>exact C1.dW (c:=c) (G:=G) (w:=w) (v := .ei i k o) h hr
 | aB i=>exact C1.dW (c:=c) (G:=G) (w:=w) (v := .aB i) h hr
 | sub i k o z=>exact C1.dW (c:=c) (G:=G) (w:=w) (v := .sub i k o z) h hr
 | eH i k o z=>exact C1.dW (c:=c) (G:=G) (w:=w) (v := .eH i k o z) h hr
 | mp i=>exact C1.dW (c:=c) (G:=G) (w:=w) (v := .mp i) h hr
 | _=>cases hr
theorem Inv.NB(h:Inv c G s a w){d:Nat}(hd:s.ae d=none):(∀ i,(s.sl i).refs d=false)/\∀ i o,s.ae i=some o->o.refs d=false:=by
 refine⟨λ i=>?_,λ i o ho=>?_⟩
 .cases hr:(s.sl i).refs d with
  | false=>rfl
  | true=>exact absurd hd ((h.aw i).dW hr)
 .cases o with
  | row e τ xs=>rfl
  | aB τ xs=>rfl
  | map m=>rfl
  | box cs =>
   cases hr:av.refs d (.box cs) with
   | false=>rfl
   | true =>
    obtain⟨b,l,t,_,_,k3⟩:=h.aH i _ ho
    obtain⟨u,hu,B6⟩:=qp (show AV.gI d cs=true from hr)
    obtain⟨y,hy⟩:=k3.mem_left u hu
    exact absurd hd (hy.dW B6)
theorem Kz(h0:Inv c G s a w){d:Option Nat}{v:AV}{ob:Option av}{a':Act}(Fw:tI d=true)(tL:∀ i o,d=some i->ob=some o->s.ae i=none)(h:vT c G s.sl s.aw.length s.ae d a w v ob a' w') :
  ∃ G',Inv c G' (s.lu d v ob) a' w':=by
 obtain⟨x,S',rfl,hI,hx⟩:=h
 cases ob with
 | none =>
  refine⟨⟨S',G.η,G.φ⟩,?_⟩
  have:s.lu d v none=s.put d v:=by cases d<;>rfl
  rw[this]
  exact Inv.put (s:=s) hI hx
 | some o =>
  obtain⟨hL,hN,hb⟩:=hx
  have hd:∃ i,d=some i:=by cases o<;>first|exact⟨_,hL.choose_spec.1⟩|exact hL.elim
  obtain⟨i,rfl⟩:=hd
  have hi:=tL i o rfl rfl
  have vR:Inv c ⟨S',G.η,G.φ⟩ s a w':=hI
  obtain⟨T4,VV⟩:=vR.NB hi
  have hor:o.refs i=false:=by
   cases o with
   | row e τ xs=>rfl
   | aB τ xs=>rfl
   | map m=>rfl
   | box cs =>
    cases hr:av.refs i (.box cs) with
    | false=>rfl
    | true =>
     obtain⟨b,l,t,_,_,k3⟩:=hN
     obtain⟨u,hu,B6⟩:=qp (show AV.gI i cs=true from hr)
     obtain⟨y,hy⟩:=k3.mem_left u hu
     exact absurd hi (hy.dW B6)
  have rH:OR c ⟨S',λ j=>if j=i then x else G.η j,G.φ⟩ (λ j=>if j=i then some o else s.ae j) w' i o:=by
   cases o with
   | box cs =>
    obtain⟨b,l,t,k1,k2,k3⟩:=hN
    refine⟨b,l,t,by simp[k1],k2,k3.imp λ u y hu hy=>hy.mono (λ j hj=>?_) (λ _ h=>h) (λ _ _=>rfl)⟩
    have dU:j≠i:=λ e=>by
     subst e
     have:=nK hu hj
     rw[show AV.gI j cs=av.refs j (.box cs) from rfl,hor] at this
     cases this
    simp only[a5J dU]
    exact⟨er.refl _,trivial⟩
   | row e τ xs =>
    obtain⟨l,k1,k2,k3⟩:=hN
    exact⟨l,by simpa using k1,k2,k3⟩
   | aB τ xs=>exact hN.elim
   | map m =>
    obtain⟨b,es,clock,k1,k2,k3⟩:=hN
    exact⟨b,es,clock,by simp[k1],k2,k3⟩
  have Se:df (some o)=false:=by
   cases o with
   | aB τ xs=>exact hN.elim
   | _=>rfl
  have h4:=bn.newObj vR i o x hi T4 VV hor rH Se (.inr (a6H Fw)) (λ b Ja=>by
   obtain⟨q1,q2,q3⟩:=hb b Ja
   have hle:=h0.aM.size
   refine⟨by omega,q3,q2,λ j p VP K6=>?_,λ j τ xs hj K6=>?_⟩
   .have:=(h0.place j p b VP K6).2.2
    omega
   .have:=(h0.aT.pl j τ xs b hj K6).2.2.1
    omega)
  refine⟨⟨S',λ j=>if j=i then x else G.η j,G.φ⟩,?_⟩
  unfold Inv
  have cu:(s.lu (some i) v (some o)).ae=λ j=>if j=i then some o else s.ae j:=by
   funext j
   rw[zJ]
   by_cases hj:j=i
   .subst hj;simp
   .have:¬ (some i=some j):=by simp;exact λ e=>hj e.symm
    rw[a5J this,a5J hj]
  rw[H8,cu,Jk]
  refine bn.put h4 ?_
  cases o with
  | box cs =>
   obtain⟨j,hj,rfl⟩:=hL
   simp only[a5E] at hj
   subst hj
   obtain⟨b,l,t,k1,k2,k3⟩:=hN
   exact⟨b,by simp[k1],k1,by simp[gG]⟩
  | row e τ xs =>
   obtain⟨j,hj,rfl⟩:=hL
   simp only[a5E] at hj
   subst hj
   obtain⟨l,k1,k2,k3⟩:=hN
   refine⟨by simp,by simp[isRow],?_⟩
   rcases k1.2 with ⟨rfl,_⟩|⟨g,cap,cur,rfl,_⟩
   .exact⟨_,_,_,rfl⟩
   .exact⟨_,_,_,rfl⟩
  | aB τ xs=>exact hN.elim
  | map m =>
   obtain⟨j,hj,rfl⟩:=hL
   simp only[a5E] at hj
   subst hj
   obtain⟨b,es,clock,k1,k2,k3⟩:=hN
   exact⟨by simp,by simp[FG],b,k1⟩
theorem TG(h:Inv c G s a w)(o:Oper):Inv c G (s.fresh o) a w:=by
 unfold af.fresh
 split
 .rename_i d _ _
  obtain⟨h1,_,_⟩:=h.clear d
  have cu:af.ae { s.bW d with aH:=bK d (s.bW d).aH }=λ i=>if i=d then none else (s.bW d).ae i:=by
   funext i
   exact eo d _ i
  unfold Inv
  show bn c G (s.bW d).sl (s.bW d).aw.length (af.ae { s.bW d with aH:=bK d (s.bW d).aH }) a w
  rw[cu,show (s.bW d).aw.length=s.aw.length from by simp[af.bW]]
  exact h1
 .exact h
theorem RS(s:af)(o:Oper)(j:Nat):(s.ae j=none->(s.fresh o).ae j=none)/\(uU o.op=true->o.dst=some j->(s.fresh o).ae j=none):=by
 unfold af.fresh
 split
 .rename_i d hc hd
  have cu:af.ae { s.bW d with aH:=bK d (s.bW d).aH } j=if j=d then none else (s.ae j).map (av.kill d):=by
   show ae (bK d (s.bW d).aH) j=_
   rw[eo]
   have:=congrFun (dY s d) j
   show (if j=d then none else (s.bW d).ae j)=_
   rw[this]
  rw[cu]
  refine⟨λ h=>by rw[h];simp,λ _ hj=>?_⟩
  rw[hd] at hj
  simp only[a5E] at hj
  rw[a5T hj.symm]
 .rename_i l6
  exact⟨λ h=>h,λ hc hd=>(l6 j hc hd).elim⟩
theorem zx:∀ (l:List Oper) {s:af},Inv c G s a w->Inv c G (l.foldl af.fresh s) a w
 | [],_,h=>h
 | o::r,_,h=>zx r (TG h o)
theorem xn:∀ (l:List Oper) (s:af) (j:Nat),(s.ae j=none->(l.foldl af.fresh s).ae j=none)/\(∀ o∈l,uU o.op=true->o.dst=some j->(l.foldl af.fresh s).ae j=none)
 | [],s,j=>⟨λ h=>h,by simp⟩
 | o::r,s,j=>by
  obtain⟨h1,h2⟩:=xn r (s.fresh o) j
  obtain⟨h3,h4⟩:=RS s o j
  refine⟨λ h=>h1 (h3 h),λ p hp hc hd=>?_⟩
  rcases a5P.1 hp with rfl|hp
  .exact h1 (h4 hc hd)
  .exact h2 p hp hc hd
theorem Ml{E:Env}{lk:Nat->Option av}{f:FuncId}{Ts:List TypeId}{vs:List AV}{vc:Vc}{v:AV}{ob:Option av}(h:CZ E lk f Ts vs=some (vc,v,ob)):ob=none:=by
 unfold CZ at h
 repeat' split at h
 all_goals first
  | (simp only[a5E,a5H] at h;exact h.2.2.symm)
  | cases h
theorem Ko{E:Env}{lk:Nat->Option av}{g:AV}{Ts:List TypeId}{vs:List AV}{vc:Vc}{v:AV}{ob:Option av}(h:xW E lk g Ts vs=some (vc,v,ob)):ob=none:=by
 unfold xW at h
 split at h
 .rename_i r hr
  repeat' split at hr
  all_goals first
   | (simp only[a5E] at hr h;subst hr;simp only[a5H] at h;exact h.2.2.symm)
   | cases hr
 .repeat' split at h
  all_goals first
   | (simp only[a5E,a5H] at h;exact h.2.2.symm)
   | cases h
theorem H2{E:Env}{lk:Nat->Option av}{ev:Operand->AV}{o:Oper}{vc:Vc}{v:AV}{ob:av}(h:F0 E lk ev o=some (vc,v,some ob)):uU o.op=true:=by
 unfold F0 at h
 split at h
 case h_4 T bw=>rw[bw];rfl
 case h_5 T x bw=>rw[bw];rfl
 case h_7 T n ps bw=>rw[bw];rfl
 case h_21 T bw=>rw[bw];rfl
 case h_19 T x y bw=>rw[bw];rfl
 case h_20 cl bw =>
  split at h
  .repeat' split at h
   all_goals first
    | (simp at h;done)
    | cases h
  .rename_i kQ
   rw[bw]
   simp[uU,kQ]
  .exact absurd (Ml h) (by simp)
  .split at h
   .exact absurd (Ml h) (by simp)
   .exact absurd (Ko h) (by simp)
   .exact absurd (Ko h) (by simp)
   .cases h
  .cases h
 all_goals (repeat' split at h)
 all_goals first
  | (simp at h;done)
  | cases h
end
end Go.Proofs.YtnehkikdlnmebaaGreatDoor

namespace Go.Proofs.YtnehkikdlnmebaaGreatDoor
theorem Bw{l:List Oper}{D:Nat->Prop}(hD:∀ (k:Nat),D k->∀ (o:Oper),l[k]?=some o->∀ e∈o.after.toList,Region.binds .any e=true->D e.on):∀ (i:Nat) (o:Oper),l[i]?=some o->(∀ e∈o.after.toList,Region.binds .any e=true->D e.on) ->
  ∀ k,Nat.testBit ((bN l []).getD i 0) k=true->D k:=by
 obtain⟨r,h1,h2,h3⟩:=vV l []
 rw[h1]
 simp only[a6C,a6a,a6X] at h3 ⊢
 intro i
 induction i using Nat.strongRecOn with
 | _ i ih =>
  intro o ho a4f k hk
  obtain⟨e,he,hb,h⟩:=h3 i o ho k hk
  have Xp:=a4f e he hb
  rcases h with rfl|⟨bF,h⟩
  .exact Xp
  .have VT:i<l.length:=(a5W.1 ho).1
   have hp:l[e.on]?=some (l[e.on]'(by omega)):=a5V (by omega)
   exact ih e.on bF _ hp (λ e' yg cw=>hD e.on Xp _ hp e' yg cw) k h
theorem bR{l:List Oper}(h:backward l=true):∀ (i:Nat) (o:Oper),l[i]?=some o->∀ e∈o.after.toList,Region.binds .any e=true->e.on<i:=by
 intro i o ho e he hb
 unfold backward at h
 rw[a6i] at h
 have hi:i<l.length:=(a5W.1 ho).1
 have:=h i (by simpa using hi)
 rw[ho] at this
 simp only[a6i] at this
 have:=this e he
 rw[hb] at this
 simpa [Nat.blt_eq] using this
theorem BF:∀ {ds:List (Option Nat)},distinct ds=true->(∀ d∈ds,∃ t,d=some t)/\∀ (j k t:Nat),ds[j]?=some (some t)->ds[k]?=some (some t)->j=k
 | [],_=>⟨by simp,by simp⟩
 | none::_,h=>by cases h
 | some d::r,h=>by
  simp only[distinct] at h
  split at h
  .cases h
  .rename_i R0
   obtain⟨h1,h2⟩:=BF h
   have l6:∀ x∈r,x≠some d:=by
    intro x hx e
    subst e
    rw[a7i] at R0
    have:=R0 _ hx
    simp at this
   refine⟨λ x hx=>?_,λ j k t hj hk=>?_⟩
   .rcases a5P.1 hx with rfl|hx
    .exact⟨d,rfl⟩
    .exact h1 x hx
   .cases j with
    | zero =>
     simp at hj
     subst hj
     cases k with
     | zero=>rfl
     | succ k=>exact absurd rfl (l6 _ (List.mem_of_getElem? (by simpa using hk)))
    | succ j =>
     cases k with
     | zero =>
      simp at hk
      subst hk
      exact absurd rfl (l6 _ (List.mem_of_getElem? (by simpa using hj)))
     | succ k=>rw[h2 j k t (by simpa using hj) (by simpa using hk)]
theorem mem_ready{ops:Array Oper}{listed:Array Bool}{i:Nat}(hs:listed.size=ops.size):i∈Region.ready .any ops listed↔∃ o,ops[i]?=some o/\listed.getD i false=false/\∀ e∈o.after.toList,Region.binds .any e=true->listed.getD e.on false=true:=by
 unfold Region.ready
 simp only[a6U,a7Q,a5I,a6k]
 constructor
 .rintro⟨hi,h1,h2⟩
  have ho:ops[i]?=some ops[i]:=a6M hi
  rw[ho] at h2
  simp only[a9r,a8u] at h2
  refine⟨_,ho,?_,λ e he hb=>?_⟩
  .have:i<listed.size:=by omega
   simpa [Array.getD_eq_getD_getElem?,this] using h1
  .rw[a8J] at h2
   have:=h2 e (by simpa using he)
   simpa [hb] using this
 .rintro⟨o,ho,h1,h2⟩
  have hi:i<ops.size:=(a6Q.1 ho).1
  refine⟨hi,?_,?_⟩
  .have:i<listed.size:=by omega
   simpa [Array.getD_eq_getD_getElem?,this] using h1
  .rw[ho]
   simp only[a9r,a8u]
   rw[a8J]
   intro e he
   cases hb:Region.binds .any e with
   | false=>simp
   | true=>simp[h2 e (by simpa using he) hb]
theorem te{listed:Array Bool}{i k:Nat}(hi:i<listed.size):(listed.setIfInBounds i true).getD k false=true↔listed.getD k false=true\/k=i:=by
 rw[a6s,a6s,a8V]
 by_cases h:i=k
 .subst h;simp[hi]
 .simp[h,a9Q h]
section
variable {c:Ctx} {G:Gh} {s:af} {a:Act} {w w':World}
theorem GO(hE:bJ c.P c.E){ops:Array Oper}{m:Nat}(dL:backward ops.toList=true)(qB:∀ j o,m<=j->ops.toList[j]?=some o->∀ k,k<j->Nat.testBit ((bN ops.toList []).getD j 0) k=true)
  {Q:af->Prop} {Q':Exit->Act->World->Prop} (hQ:∀ G s a w,Inv c G s a w->Q s->Q' .normal a w) :
  ∀ (fuel j:Nat) (kn:List (Nat×Bool)) (G:Gh) (s:af) (a:Act) (w:World) (listed:Array Bool),m<=j->ops.size<=j+fuel->listed.size=ops.size->(∀ k,k<ops.size->(listed.getD k false=true↔k<j)) ->
   Inv c G s a w->fv c.E ops (ops.toList.drop j) kn Q s->wpAny c.P .any ops Q' fuel listed a w:=by
 intro fuel
 induction fuel with
 | zero =>
  intro j kn G s a w listed hmj hf cz hl hI hr
  have nm:ops.toList.drop j=[]:=a7v (by simp;omega)
  rw[nm] at hr
  refine⟨?_,hQ _ _ _ _ hI hr⟩
  apply a8j.2
  intro i hi
  obtain⟨o,ho,h1,_⟩:=(mem_ready cz).1 hi
  have bF:=(a6Q.1 ho).1
  have:=(hl i bF).2 (by omega)
  rw[h1] at this
  cases this
 | succ fuel ih =>
  intro j kn G s a w listed hmj hf cz hl hI hr
  by_cases hj:j<ops.size
  .have ho:ops[j]?=some ops[j]:=a6M hj
   have a1Z:ops.toList.drop j=ops[j]::ops.toList.drop (j+1):=by
    rw[List.drop_eq_getElem_cons (by simpa using hj)]
    simp
   rw[a1Z] at hr
   constructor
   .intro nm
    have:j∈Region.ready .any ops listed:=(mem_ready cz).2 ⟨_,ho,by
     cases hb:listed.getD j false with
     | false=>rfl
     | true=>have:=(hl j hj).1 hb;omega,λ e he hb=>by
     have:=bR dL j ops[j] (by simp) e he hb
     exact (hl e.on (by omega)).2 this⟩
    rw[nm] at this
    cases this
   .intro i hi
    obtain⟨o,cm,h1,h2⟩:=(mem_ready cz).1 hi
    have En:=(a6Q.1 cm).1
    have Qk:j<=i:=by
     rcases a6w i j with h|h
     .have:=(hl i En).2 h
      rw[h1] at this
      cases this
     .exact h
    have yh:i=j:=by
     rcases a6w j i with h|h
     .have iX:=Bw (l:=ops.toList) (D:=λ k=>k<j) (λ k hk o' cM e he hb=>by
       have:=bR dL k o' cM e he hb;omega) i o (by simpa using cm) (λ e he hb=>by
        have bF:=bR dL i o (by simpa using cm) e he hb
        exact (hl e.on (by omega)).1 (h2 e he hb)) j (qB i o (by omega) (by simpa using cm) j h)
      omega
     .omega
    subst yh
    have hoe:o=ops[i]:=by rw[ho] at cm;exact (a6Z cm).symm
    have Aq:∀ k,k<ops.size->((listed.setIfInBounds i true).getD k false=true↔k<i+1):=λ k hk=>by
     rw[te (by omega),hl k hk];omega
    unfold wpOp
    simp only[ho]
    have vi:=y8 hE hI hr
    split at vi
    .rename_i hw
     rw[a5T hw]
     exact .inl (a7r (λ a' w' ⟨G',s',pN,h1,h2⟩=>ih (i+1) pN G' s' a' w' _ (by omega) (by omega) (by rw[a6P];exact cz) Aq h1 h2) (vi Q'))
    .rename_i hw
     rw[a5J hw]
     obtain⟨G',s',pN,h1,h2⟩:=vi
     exact ih (i+1) pN G' s' _ w _ (by omega) (by omega) (by rw[a6P];exact cz) Aq h1 h2
  .have nm:ops.toList.drop j=[]:=a7v (by simp;omega)
   rw[nm] at hr
   have oL:Region.ready .any ops listed=[]:=by
    apply a8j.2
    intro i hi
    obtain⟨o,ho,h1,_⟩:=(mem_ready cz).1 hi
    have bF:=(a6Q.1 ho).1
    have:=(hl i bF).2 (by omega)
    rw[h1] at this
    cases this
   exact⟨λ _=>hQ _ _ _ _ hI hr,λ i hi=>by rw[oL] at hi;cases hi⟩
theorem Em{l:List Oper}{ops:Array Oper}(hl:ops.toList=l){bits:Nat}{o:Oper}{D0:Bool}(h:Inv c G s a w)(hg:gJ l bits s o D0):Region.wanted o (yielded ops a.tmps)=D0:=by
 unfold gJ at hg
 split at hg
 .rename_i hn
  simp[Region.wanted,hn,hg]
 .rename_i g want hn
  obtain⟨t,v,h1,_,h3,h4⟩:=hg
  have hx:=bp h (.tmp t)
  rw[h3] at hx
  have hs:va ops g=some t:=by
   unfold va
   rw[<-h1]
   unfold cj
   rw[<-hl]
   simp
  unfold GV at h4
  split at h4
  .have hy:=Fv (s:=s) hs hx
   simp[Region.wanted,hn,hy,h4]
  .have hy:=BR (s:=s) hs hx
   simp[Region.wanted,hn,hy,h4]
  .exact h4.elim
theorem Tj(hE:bJ c.P c.E){ops:Array Oper}{m:Nat}{es:List II}{s0:af}(dL:backward ops.toList=true)(hm:m<=ops.size)
  (qB:∀ j o,m<=j->ops.toList[j]?=some o->∀ k,k<j->Nat.testBit ((bN ops.toList []).getD j 0) k=true)
  (qC:∀ j k t,j<m->k<m->cj ops.toList j=some t->cj ops.toList k=some t->j=k)
  (Xs:∀ i o,i<m->ops.toList[i]?=some o->LY c.E ops.toList m ((bN ops.toList []).getD i 0) (dR ops.toList es s0 (List.range i)) o (es.getD i ⟨false, .any,none⟩))
  (Fw:∀ i o,i<m->ops.toList[i]?=some o->tI o.dst=true) (rV:∀ i o t,i<m->ops.toList[i]?=some o->uU o.op=true->o.dst=some t->s0.ae t=none)
  {Q:af->Prop} {Q':Exit->Act->World->Prop} (hQ:∀ G s a w,Inv c G s a w->Q s->Q' .normal a w) {kn:List (Nat×Bool)} (MX:∀ G a w,Inv c G (dR ops.toList es s0 (List.range m)) a w->fv c.E ops (ops.toList.drop m) kn Q (dR ops.toList es s0 (List.range m))) :
  ∀ (fuel:Nat) (π:List Nat) (G:Gh) (a:Act) (w:World) (listed:Array Bool),ops.size=π.length+fuel->π.Nodup->(∀ k∈π,k<m)->listed.size=ops.size->(∀ k,k<ops.size->(listed.getD k false=true↔k∈π)) ->
   (∀ k∈π,∀ o,ops.toList[k]?=some o->∀ e∈o.after.toList,Region.binds .any e=true->e.on∈π)->Inv c G (dR ops.toList es s0 π) a w->wpAny c.P .any ops Q' fuel listed a w:=by
 intro fuel
 induction fuel with
 | zero =>
  intro π G a w listed hf hn bF cz hl ve hI
  have hlen:=uG m π hn bF
  have nk:∀ k,k<m->k∈π:=λ k hk=>by
   cases hb:decide (k∈π) with
   | true=>exact a6f hb
   | false =>
    have:=uG m (k::π) (a6m.2 ⟨a7z hb,hn⟩) (λ j hj=>by
     rcases a5P.1 hj with rfl|hj
     .exact hk
     .exact bF j hj)
    simp at this
    omega
  suffices vR:Inv c G (dR ops.toList es s0 (List.range m)) a w from GO hE dL qB hQ 0 m kn G (dR ops.toList es s0 (List.range m)) a w listed (a6b _) (by omega) cz (λ k hk=>by rw[hl k hk];exact⟨bF k,nk k⟩) vR (MX G a w vR)
  have heq:∀ t,(dR ops.toList es s0 π).sl t=(dR ops.toList es s0 (List.range m)).sl t/\(dR ops.toList es s0 π).ae t=(dR ops.toList es s0 (List.range m)).ae t:=λ t =>
   NX (bits:=2 ^ m - 1) qC bF (by simp) hn List.nodup_range (λ k hk _=>⟨nk k hk,by simpa using hk⟩) t (by
    unfold hidden
    rw[a7i]
    intro k hk
    simp only[a7Q] at hk
    split
    .split
     .simp[a7U,hk]
     .simp
    .simp)
  unfold Inv at hI ⊢
  rw[HE] at hI ⊢
  rw[<-funext λ t=>(heq t).1,<-funext λ t=>(heq t).2]
  exact hI
 | succ fuel ih =>
  intro π G a w listed hf hn bF cz hl ve hI
  by_cases nk:∀ k,k<m->k∈π
  .suffices vR:Inv c G (dR ops.toList es s0 (List.range m)) a w from GO hE dL qB hQ (fuel+1) m kn G (dR ops.toList es s0 (List.range m)) a w listed (a6b _) (by have:=uG m π hn bF;omega) cz (λ k hk=>by rw[hl k hk];exact⟨bF k,nk k⟩) vR (MX G a w vR)
   have heq:∀ t,(dR ops.toList es s0 π).sl t=(dR ops.toList es s0 (List.range m)).sl t/\(dR ops.toList es s0 π).ae t=(dR ops.toList es s0 (List.range m)).ae t:=λ t =>
    NX (bits:=2 ^ m - 1) qC bF (by simp) hn List.nodup_range (λ k hk _=>⟨nk k hk,by simpa using hk⟩) t (by
     unfold hidden
     rw[a7i]
     intro k hk
     simp only[a7Q] at hk
     split
     .split
      .simp[a7U,hk]
      .simp
     .simp)
   unfold Inv at hI ⊢
   rw[HE] at hI ⊢
   rw[<-funext λ t=>(heq t).1,<-funext λ t=>(heq t).2]
   exact hI
  ·
   have hex:∃ k,k<m/\k∉π/\∀ j,j<k->j∈π:=by
    have:∀ n,(∃ k,k<n/\k<m/\k∉π)->∃ k,k<m/\k∉π/\∀ j,j<k->j∈π:=by
     intro n
     induction n with
     | zero=>rintro⟨k,hk,_⟩;omega
     | succ n ihn =>
      rintro⟨k,hk,hkm,mY⟩
      by_cases hs:∃ k,k<n/\k<m/\k∉π
      .exact ihn hs
      .refine⟨k,hkm,mY,λ j hj=>?_⟩
       cases hb:decide (j∈π) with
       | true=>exact a6f hb
       | false=>exact absurd ⟨j,by omega,by omega,a7z hb⟩ hs
    refine this m ?_
    have h1:∃ k,¬ (k<m->k∈π):=a9B.1 nk
    obtain⟨k,hk⟩:=h1
    have h2:=a9g.1 hk
    exact⟨k,h2.1,h2.1,h2.2⟩
   obtain⟨k0,U2,uw,Sd⟩:=hex
   have R9:ops[k0]?=some (ops[k0]'(by omega)):=a6M (by omega)
   constructor
   .intro nm
    have:k0∈Region.ready .any ops listed:=(mem_ready cz).2 ⟨_,R9,by
     cases hb:listed.getD k0 false with
     | false=>rfl
     | true=>exact absurd ((hl k0 (by omega)).1 hb) uw,λ e he hb=>by
     have Kw:=bR dL k0 ops[k0] (by simp) e he hb
     exact (hl e.on (by omega)).2 (Sd e.on Kw)⟩
    rw[nm] at this
    cases this
   .intro i hi
    obtain⟨o,cm,h1,h2⟩:=(mem_ready cz).1 hi
    have En:=(a6Q.1 cm).1
    have eg:ops.toList[i]?=some o:=by simpa using cm
    have uv:i∉π:=λ hh=>by
     have:=(hl i En).2 hh
     rw[h1] at this
     cases this
    have MW:∀ e∈o.after.toList,Region.binds .any e=true->e.on∈π:=λ e he hb=>by
     have Kw:=bR dL i o eg e he hb
     exact (hl e.on (by omega)).1 (h2 e he hb)
    have Ap:=Bw (l:=ops.toList) (D:=λ k=>k∈π) (λ k hk o' cM e he hb=>ve k hk o' cM e he hb) i o eg MW
    have sS:i<m:=by
     rcases a6w i m with h|h
     .exact h
     .exact absurd (Ap k0 (qB i o h eg k0 (by omega))) uw
    have Hn:=Bw (l:=ops.toList) (D:=λ k=>k<i) (λ k hk o' cM e he hb=>by
     have:=bR dL k o' cM e he hb;omega) i o eg (λ e he hb=>bR dL i o eg e he hb)
    have FE:=λ t hh=>NX (l:=ops.toList) (es:=es) (s0:=s0) (m:=m) (bits:=(bN ops.toList []).getD i 0) (π:=π) (π':=List.range i) qC bF (by intro k hk;simp at hk;omega) hn a8I
     (λ k hk hb=>⟨Ap k hb,by simpa using Hn k hb⟩) t hh
    obtain⟨hg,cS,T6⟩:=Xs i o sS eg
    have cY:Oo ops.toList m ((bN ops.toList []).getD i 0) (dR ops.toList es s0 (List.range i))=Oo ops.toList m ((bN ops.toList []).getD i 0) (dR ops.toList es s0 π):=by
     funext x
     cases x with
     | tmp t =>
      simp only[Oo]
      split
      .rfl
      .rename_i hh
       exact ((FE t hh).1).symm
     | _=>rfl
    have cu:Ld ops.toList m ((bN ops.toList []).getD i 0) (dR ops.toList es s0 (List.range i))=Ld ops.toList m ((bN ops.toList []).getD i 0) (dR ops.toList es s0 π):=by
     funext t
     simp only[Ld]
     split
     .rfl
     .rename_i hh
      exact ((FE t hh).2).symm
    have hg':gJ ops.toList ((bN ops.toList []).getD i 0) (dR ops.toList es s0 π) o (es.getD i ⟨false, .any,none⟩).D0:=by
     unfold gJ at hg ⊢
     split
     .rename_i uy
      simpa [uy] using hg
     .rename_i g want uy
      simp only[uy] at hg
      obtain⟨t,b,q1,q2,q3,q4⟩:=hg
      refine⟨t,b,q1,q2,?_,q4⟩
      have ZA:g<m:=Nat.lt_trans (Hn g q2) sS
      have hh:hidden ops.toList m ((bN ops.toList []).getD i 0) t=false:=by
       unfold hidden
       rw[a7i]
       intro k hk
       simp only[a7Q] at hk
       split
       .rename_i d hd
        split
        .rename_i BW
         have BW:=a5F BW
         subst BW
         have:=qC k g d hk ZA hd q1
         subst this
         rw[q2];simp
        .simp
       .simp
      exact ((FE t hh).1).trans q3
    have hw:=Em (ops:=ops) rfl hI hg'
    have vf:∀ (G':Gh) (a':Act) (w':World),Inv c G' (dR ops.toList es s0 (π++[i])) a' w'->wpAny c.P .any ops Q' fuel (listed.setIfInBounds i true) a' w':=by
     intro G' a' w' vR
     refine ih (π++[i]) G' a' w' _ (by simp;omega) ?_ ?_ (by rw[a6P];exact cz) ?_ ?_ vR
     .rw[a5Y]
      exact⟨hn,by simp,λ x hx y hy=>by simp at hy;subst hy;exact λ e=>uv (e ▸ hx)⟩
     .intro k hk
      rcases a5G.1 hk with hk|hk
      .exact bF k hk
      .simp at hk;omega
     .intro k hk
      rw[te (by omega),hl k hk]
      simp
     .intro k hk o' cM e he hb
      rcases a5G.1 hk with hk|hk
      .exact a7Y _ (ve k hk o' cM e he hb)
      .simp at hk
       subst hk
       rw[eg] at cM
       simp only[a5E] at cM
       subst cM
       exact a7Y _ (MW e he hb)
    have Jc:cj ops.toList i=o.dst:=by simp[cj,eg]
    unfold wpOp
    simp only[cm]
    cases Hv:(es.getD i ⟨false, .any,none⟩).D0 with
    | true =>
     rw[Hv] at hw
     rw[a5T hw]
     obtain⟨vc,hq,eJ⟩:=cS Hv
     rw[cY,cu] at hq
     refine .inl (a7r ?_ (F4 hE hI (lk':=Ld ops.toList m ((bN ops.toList []).getD i 0) (dR ops.toList es s0 π)) ?_ ?_ hq eJ))
     .intro a' w' hd
      obtain⟨G',sT⟩:=Kz hI (Fw i o sS eg) (λ t ob BW La=>by
       rw[La] at hq
       have MU:=H2 hq
       have h0:=rV i o t sS eg MU BW
       have yj:=(hH ops.toList es t π s0 (λ k hk hkd=>by
        have:=qC k i t (bF k hk) sS hkd (by rw[Jc];exact BW)
        subst this
        exact uv hk)).2
       rw[yj,h0]) hd
      refine vf G' a' w' ?_
      rw[uH,Jc]
      exact sT
     .intro id ob aW
      unfold Ld at aW
      split at aW
      .cases aW
      .exact aW
     .intro x
      cases x with
      | tmp t =>
       simp only[Oo]
       split
       .trivial
       .exact bp hI (.tmp t)
      | const v=>exact bp hI (.const v)
      | global g=>exact bp hI (.global g)
      | func f=>exact bp hI (.func f)
    | false =>
     rw[Hv] at hw
     rw[hw]
     obtain⟨hv,La⟩:=T6 Hv
     refine vf G _ w ?_
     rw[uH,Jc,hv,La,Jj]
     exact Inv.put (v := .eC) hI rfl
theorem Nj{l:List Oper}{K:Prop}(h:Inv c G s a w):uF l s K->K:=by
 induction l with
 | nil=>exact λ h=>h
 | cons o r ih =>
  intro hk
  simp only[uF] at hk
  split at hk
  .exact ih (C8 (h.aw _) hk)
  .exact ih hk
theorem Mg(hE:bJ c.P c.E)(lI:c.P.follows .mixedOrders=true){id:Nat}{ops:Array Oper}{Q:af->Prop}{Q':Exit->Act->World->Prop}(hQ:∀ G s a w,Inv c G s a w->Q s->Q' .normal a w)
  (h:Inv c G s a w) (hd:Mf c.E ops Q s):(Code.region id ops true).wp c.P Q' a w:=by
 unfold Mf at hd
 simp only at hd
 split at hd
 case h_2=>exact hd.elim
 case h_1 hb =>
  simp only[a5I] at hb
  obtain⟨BT,zB,dL⟩:=hb
  obtain⟨r,ha1,ha2,_⟩:=vV ops.toList []
  have MR:(bN ops.toList []).length=ops.size:=by rw[ha1];simpa using ha2
  obtain⟨T3,_,VU⟩:=xB (bN ops.toList []) 0 0 (a6b _)
  simp only[a6X] at T3 VU
  rw[MR] at T3
  generalize hmd:o5 (bN ops.toList []) 0 0=m at *
  have qB:∀ j o,m<=j->ops.toList[j]?=some o->∀ k,k<j->Nat.testBit ((bN ops.toList []).getD j 0) k=true:=by
   intro j o hmj ho k hk
   have hj:j<ops.size:=by have:=(List.getElem?_eq_some_iff.1 ho).1;simpa using this
   have hg:(bN ops.toList [])[j]?=some ((bN ops.toList [])[j]'(by omega)):=a5V (by omega)
   have:=VU j _ hg hmj
   rw[a6o,hg,a8u,show (bN ops.toList [])[j]'(by omega)=2 ^ j - 1 by omega,a7U]
   simpa using hk
  obtain⟨_,Jc⟩:=BF zB
  have qC:∀ j k t,j<m->k<m->cj ops.toList j=some t->cj ops.toList k=some t->j=k:=by
   have get:∀ j t,j<m->cj ops.toList j=some t->((ops.toList.take m).map (·.dst))[j]?=some (some t):=by
    intro j t hj Hs
    unfold cj at Hs
    simp only[a6W] at Hs
    obtain⟨o,ho,Se⟩:=Hs
    rw[a7w,a6Y,a5T hj,ho]
    simp[Se]
   intro j k t hj hk Hs hkt
   exact Jc j k t (get j t hj Hs) (get k t hk hkt)
  obtain⟨es,pN,s',vj,hq⟩:=sE hd
  have hlen:(ops.toList.take m).length=m:=by simp;omega
  have M4:∀ j o,(ops.toList.take m)[j]?=some o->ops.toList[0+j]?=some o:=λ j o ho=>by
   rw[a6Y] at ho
   split at ho
   .simpa using ho
   .cases ho
  obtain⟨ZO,XN⟩:=PA (ops.toList.take m) 0 es [] _ s' vj M4 rfl rfl
  simp only[a6C,a6X,hlen] at ZO XN
  subst XN
  have Xc:Inv c G ((ops.toList.take m).foldl af.fresh s) a w.drew:=zx _ (bn.drew h)
  refine wp_region_any lI ?_
  refine Tj hE (m:=m) (es:=es) (s0:=(ops.toList.take m).foldl af.fresh s) dL T3 qB qC ?_ (λ i o sS ho=>a6i.1 BT o (a6F (by rw[a6Y,a5T sS];exact ho))) ?_ hQ (kn:=pN) (λ G a w hI=>Nj hI hq) ops.size [] G a _ _ (by simp) (by simp) (by simp) (by simp) ?_ (by simp) Xc
  .intro i o sS ho
   exact ZO i o (by rw[a6Y,a5T sS];exact ho)
  .intro i o t sS ho hc BW
   exact (xn (ops.toList.take m) s t).2 o (a6F (by rw[a6Y,a5T sS];exact ho)) hc BW
  .intro k hk
   simp[hk]
end
end Go.Proofs.YtnehkikdlnmebaaGreatDoor

namespace Go.Proofs.YtnehkikdlnmebaaGreatDoor
section
variable {w w':World}
theorem LX.ctx{c c':Ctx}{S:Nat->Prop}{v:Arg}{x:Value}(h:LX c S w v x)(cp:∀ b,St c S b->St c' S b):LX c' S w v x:=by
 cases v with
 | ref v=>obtain⟨b,o,cs,h1,h2,h3⟩:=h;exact⟨b,o,cs,h1,cp b h2,h3⟩
 | val v=>exact h
 | fn f=>exact h
 | di v=>exact h
 | own v=>exact h
 | box k=>exact h
theorem C1.ctx{c c':Ctx}(hP:c'.P=c.P){G:Gh}{lk:Nat->Option av}{v:AV}{x:Value}(h:C1 c G lk w v x)(cp:∀ b,St c G.S b->St c' G.S b):C1 c' G lk w v x:=by
 cases v with
 | fX v=>obtain⟨b,o,cs,h1,h2,h3⟩:=h;exact⟨b,o,cs,h1,cp b h2,h3⟩
 | jE v=>obtain⟨f,gK,l,h1,h2,h3⟩:=h;exact⟨f,gK,l,h1,hP ▸ h2,h3.imp λ _ _ _ q=>q.ctx cp⟩
 | _=>exact h
theorem TR.ctx{c c':Ctx}(hP:c'.P=c.P){G:Gh}{lk:Nat->Option av}{v:AV}{x:Value}(h:TR c G lk w v x)(cp:∀ b,St c G.S b->St c' G.S b):TR c' G lk w v x:=by
 cases v with
 | aB id=>exact (show C1 c G lk w (.aB id) x from h).ctx hP cp
 | agg cs=>obtain⟨l,h1,h2⟩:=h;exact⟨l,h1,h2.imp λ _ _ _ q=>q.ctx hP cp⟩
 | aS v=>exact h
 | any=>trivial
 | _=>exact h.elim
theorem CR.ctx{c c':Ctx}(hP:c'.P=c.P){G:Gh}{lk:Nat->Option av}{v:AV}{x:Value}(h:CR c G lk w v x)(cp:∀ b,St c G.S b->St c' G.S b):CR c' G lk w v x:=by
 cases v with
 | aS v=>exact h
 | agg cs=>obtain⟨l,h1,h2⟩:=h;exact⟨l,h1,h2.imp λ _ _ _ q=>q.ctx hP cp⟩
 | any=>exact (show C1 c G lk w (.any) x from h).ctx hP cp
 | eC=>exact (show C1 c G lk w (.eC) x from h).ctx hP cp
 | nil=>exact (show C1 c G lk w (.nil) x from h).ctx hP cp
 | fX v=>exact (show C1 c G lk w (.fX v) x from h).ctx hP cp
 | ptr i o=>exact (show C1 c G lk w (.ptr i o) x from h).ctx hP cp
 | row i=>exact (show C1 c G lk w (.row i) x from h).ctx hP cp
 | ei i j o=>exact (show C1 c G lk w (.ei i j o) x from h).ctx hP cp
 | j8 vs=>exact (show C1 c G lk w (.j8 vs) x from h).ctx hP cp
 | fn f=>exact (show C1 c G lk w (.fn f) x from h).ctx hP cp
 | aB i=>exact (show C1 c G lk w (.aB i) x from h).ctx hP cp
 | sub i j o z=>exact (show C1 c G lk w (.sub i j o z) x from h).ctx hP cp
 | eH i j o z=>exact (show C1 c G lk w (.eH i j o z) x from h).ctx hP cp
 | di f cs=>exact (show C1 c G lk w (.di f cs) x from h).ctx hP cp
 | jE v=>exact (show C1 c G lk w (.jE v) x from h).ctx hP cp
 | mp i=>exact (show C1 c G lk w (.mp i) x from h).ctx hP cp
theorem VR.ctx{c c':Ctx}(hP:c'.P=c.P){G:Gh}{lk:Nat->Option av}{v:AV}{x:Value}(h:VR c G lk w v x)(cp:∀ b,St c G.S b->St c' G.S b):VR c' G lk w v x:=by
 cases v with
 | aS v=>exact h
 | agg cs=>obtain⟨l,h1,h2⟩:=h;exact⟨l,h1,h2.imp λ _ _ _ q=>q.ctx hP cp⟩
 | j8 vs=>obtain⟨l,h1,h2⟩:=h;exact⟨l,h1,h2.imp λ _ _ _ q=>q.ctx hP cp⟩
 | di f cs=>obtain⟨l,h1,h2⟩:=h;exact⟨l,h1,h2.imp λ _ _ _ q=>q.ctx hP cp⟩
 | any=>exact (show C1 c G lk w (.any) x from h).ctx hP cp
 | eC=>exact (show C1 c G lk w (.eC) x from h).ctx hP cp
 | nil=>exact (show C1 c G lk w (.nil) x from h).ctx hP cp
 | fX v=>exact (show C1 c G lk w (.fX v) x from h).ctx hP cp
 | ptr i o=>exact (show C1 c G lk w (.ptr i o) x from h).ctx hP cp
 | row i=>exact (show C1 c G lk w (.row i) x from h).ctx hP cp
 | ei i j o=>exact (show C1 c G lk w (.ei i j o) x from h).ctx hP cp
 | fn f=>exact (show C1 c G lk w (.fn f) x from h).ctx hP cp
 | aB i=>exact (show C1 c G lk w (.aB i) x from h).ctx hP cp
 | sub i j o z=>exact (show C1 c G lk w (.sub i j o z) x from h).ctx hP cp
 | eH i j o z=>exact (show C1 c G lk w (.eH i j o z) x from h).ctx hP cp
 | jE v=>exact (show C1 c G lk w (.jE v) x from h).ctx hP cp
 | mp i=>exact (show C1 c G lk w (.mp i) x from h).ctx hP cp
theorem OR.ctx{c c':Ctx}(hP:c'.P=c.P){G:Gh}{lk:Nat->Option av}{id:Nat}{o:av}(h:OR c G lk w id o)(cp:∀ b,St c G.S b->St c' G.S b):OR c' G lk w id o:=by
 cases o with
 | box cs=>obtain⟨b,l,t,h1,h2,h3⟩:=h;exact⟨b,l,t,h1,h2,h3.imp λ _ _ _ q=>q.ctx hP cp⟩
 | row e τ xs=>exact h
 | aB τ xs=>exact h
 | map m=>exact h
def Ctx.fz(c:Ctx)(w:World)(S:Nat->Prop)(Z:Nat->Prop):Ctx :=
 { c with w0:=w,X:=λ b=>((c.w0.heap.size<=b/\b<w.heap.size)\/c.X b)/\¬ Z b,S0:=S,Z:=λ b=>Z b\/c.Z b }
theorem Inv.fz{c:Ctx}{G:Gh}{s:af}{a:Act}(h:Inv c G s a w){Z:Nat->Prop}(hZ:∀ b,Z b->uK c G s.ae w b):Inv (c.fz w G.S Z) G s a w:=by
 have cp:∀ b,St c G.S b->St (c.fz w G.S Z) G.S b:=λ b hb=>by
  rcases hb with hb|⟨h1,h2,h3⟩
  .exact .inl hb
  .refine .inr ⟨a5Q h1 h.aM.size,λ q=>q.1.elim (λ q=>by omega) h2,λ q=>q.elim (λ z=>(hZ b z).1.elim (λ q=>by omega) h2) h3⟩
 exact {
  defers:=h.defers,size:=h.size
  aM:=bX.refl _ _
  mO:=⟨λ b hb=>hb.1.elim (λ q=>q.2) λ q=>a5Q (h.mO.1 b q) h.aM.size,λ g hg=>by
   obtain⟨_,h2,h3,_⟩:=h.mO.2 g hg
   obtain⟨g1,g2⟩:=h.Wk.2 g hg
   exact⟨g1,λ q=>q.1.elim (λ q=>by omega) h2,h.dX g g1,g2⟩⟩
  eF:=λ b _ _=>a7N
  sX:=λ b hb=>hb
  dX:=h.dX
  aw:=λ i=>(h.aw i).ctx (c:=c) (c':=c.fz w G.S Z) rfl cp
  aH:=λ id o ho=>(h.aH id o ho).ctx (c:=c) (c':=c.fz w G.S Z) rfl cp
  place:=λ id o b ho hb=>by
   obtain⟨h1,h2,h3⟩:=h.place id o b ho hb
   exact⟨.inr ⟨h1.imp (λ q=>⟨q,h3⟩) (λ q=>q),λ z=>(hZ b z).2.2.2.1 id o ho hb⟩,h2,h3⟩
  apart:=h.apart
  aT:={
   tr:=h.aT.tr,nd:=h.aT.nd,ap:=h.aT.ap
   pl:=λ id τ xs b ht hb=>by
    obtain⟨h1,h2,h3,h4⟩:=h.aT.pl id τ xs b ht hb
    exact⟨.inr ⟨h1.imp (λ q=>⟨q,h3⟩) (λ q=>q),λ z=>(hZ b z).2.2.2.2 id τ xs ht hb⟩,h2,h3,h4⟩ }
  root:=h.root,ka:=h.ka,dF:=h.dF,fJ:=h.fJ }
theorem Inv.a4Z{c:Ctx}{G:Gh}{s:af}{a:Act}{G':Gh}{s':af}{a':Act}(h:Inv c G s a w){Z:Nat->Prop}(hZ:∀ b,Z b->uK c G s.ae w b)(h':Inv (c.fz w G.S Z) G' s' a' w') :
  Inv c G' s' a' w'/\∀ b,Z b->w'.heap[b]?=w.heap[b]?/\uK c G' s'.ae w' b:=by
 have cp:∀ b,St (c.fz w G.S Z) G'.S b->St c G'.S b:=λ b hb=>by
  rcases hb with hb|⟨h1,h2,h3⟩
  .exact .inl hb
  .have hz:¬ Z b:=λ z=>h3 (.inl z)
   refine .inr ⟨?_,λ q=>h2 ⟨.inr q,hz⟩,λ q=>h3 (.inr q)⟩
   rcases a6w b c.w0.heap.size with q|q
   .exact q
   .exact absurd ⟨.inl ⟨q,h1⟩,hz⟩ h2
 have back:∀ b,(w.heap.size<=b\/(c.fz w G.S Z).X b)->c.w0.heap.size<=b\/c.X b:=λ b hb=>by
  have:=h.aM.size
  exact hb.elim (λ q => .inl (by omega)) λ q=>q.1.elim (λ q => .inl q.1) .inr
 refine⟨{
  defers:=h'.defers,size:=h'.size
  aM:=h.aM.trans h'.aM λ i hi hx=>hx.1.elim (λ q=>by omega) (λ q=>q)
  mO:=h.mO
  eF:=λ b hb hx=>(h'.eF b (a5Q hb h.aM.size) (λ q=>q.1.elim (λ q=>by omega) hx)).trans (h.eF b hb hx)
  sX:=λ b hb=>h'.sX b (h.sX b hb)
  dX:=h'.dX
  aw:=λ i=>(h'.aw i).ctx (c:=c.fz w G.S Z) (c':=c) rfl cp
  aH:=λ id o ho=>(h'.aH id o ho).ctx (c:=c.fz w G.S Z) (c':=c) rfl cp
  place:=λ id o b ho hb=>by
   obtain⟨h1,h2,h3⟩:=h'.place id o b ho hb
   exact⟨back b h1,h2,h3⟩
  apart:=h'.apart
  aT:={
   tr:=h'.aT.tr,nd:=h'.aT.nd,ap:=h'.aT.ap
   pl:=λ id τ xs b ht hb=>by
    obtain⟨h1,h2,h3,h4⟩:=h'.aT.pl id τ xs b ht hb
    exact⟨back b h1,h2,h3,h4⟩ }
  root:=h'.root,ka:=h'.ka,dF:=h'.dF,fJ:=h'.fJ },λ b z=>?_⟩
 obtain⟨z1,z2,z3,z4,z5⟩:=hZ b z
 have Ov:¬ (c.fz w G.S Z).X b:=λ q=>q.2 z
 have l6:¬ (w.heap.size<=b\/(c.fz w G.S Z).X b):=λ q=>q.elim (λ q=>by omega) Ov
 exact⟨h'.aM.block b z3 Ov,z1,λ q=>z2 ((h'.eF b z3 Ov).1 q),a5Q z3 h'.aM.size,λ i o cm hb=>l6 (h'.place i o b cm hb).1,λ j τ xs hj hb=>l6 (h'.aT.pl j τ xs b hj hb).1⟩
end
end Go.Proofs.YtnehkikdlnmebaaGreatDoor

/- VmTree, VmMark, VmOwnOps, VmBuild, VmBuild2, VmSt, VmStep, VmDraw, VmDraw2, VmDraw3, VmFrz. -/
import Derived.Test.YtaaamahdcpcofaaDoorVmEff
import Derived.Eval
set_option linter.all false
namespace Go.Proofs.YtaaamahdcpcofaaDoor
def a2I:=@List.cons_append
def a3m:=@List.mem_cons_of_mem
def a1X:=@List.nodup_append
def a2L:=@List.nodup_nil
def a2o:=@List.nodup_cons
def a3c:=@List.take_append_drop
def a5j:=@List.set_append_right
def a4D:=@List.getElem?_eq_none
def a3p:=@Bool.or_eq_true
def a2k:=@Bool.not_eq_true'
def a3U:=@Nat.lt_irrefl
def a5w:=@Array.toList_append
def a5k:=@Go.heap_alloc_old
def a4G:=@Nat.beq_refl
def a4w:=@List.mem_cons_self
def a3I:=@List.mem_range
def a4t:=@Classical.byContradiction
def a4A:=@List.nodup_range
def a3X:=@List.Nodup.length_le_of_subset
def a3k:=@Go.Oper.wp_mono
def a4i:=@Option.getD_some
def a3i:=@List.any_eq_false
def a4c:=@List.singleton_append
def a3B:=@List.length_erase_of_mem
def a3J:=@List.length_pos_of_mem
def a2N:=@List.mem_filter
def a4B:=@Array.all_eq_true_iff_forall_mem
def a2z:=@Array.getElem?_eq_some_iff
def a3q:=@List.eq_nil_iff_forall_not_mem
def a2E:=@Array.size_setIfInBounds
def a3e:=@of_decide_eq_false
def a3L:=@Nat.testBit_two_pow_sub_one
def a5n:=@Classical.not_forall
def a4T:=@Classical.not_imp
def a3N:=@List.mem_append_left
def a5t:=@Go.wp_region_any
section
variable {c:Ctx} {G:Gh} {sl:Nat->AV} {n:Nat} {lk:Nat->Option au} {a:Act} {w w':World}
theorem bc.Mn(h:bc c G sl n lk a w)(id:Nat)(τ:Ty)(xs:List τ.den)(UJ:Value)(fp:List Nat)(aN:lk id=none)(hs:∀ i,(sl i).refs id=false)(ho:∀ i o,lk i=some o->o.refs id=false)
  (a0h:c.R id=none) (hT:jH w UJ τ xs fp) (dq:fp.Nodup) (T7:∀ b∈fp,(c.w0.heap.size<=b\/c.X b)/\¬ G.S b/\b<w.heap.size/\(∀ i o,lk i=some o->fe (G.η i)≠some b)/\∀ j τ xs,lk j=some (.aq τ xs)->b∉G.φ j) :
  bc c ⟨G.S,λ i=>if i=id then UJ else G.η i,λ i=>if i=id then fp else G.φ i⟩ sl n (λ i=>if i=id then some (.aq τ xs) else lk i) a w:=by
 have fQ:∀ j,j≠id->ft (lk j) ((λ i=>if i=id then some (au.aq τ xs) else lk i) j)/\(if j=id then UJ else G.η j)=G.η j:=λ j hj=>by simp only[a1B hj];exact⟨ft.refl _,trivial⟩
 have Ii:fe UJ=none:=by
  obtain⟨v,l,_,_,h1,_⟩:=hT
  rw[h1];rfl
 have kY:∀ i b,fe (if i=id then UJ else G.η i)=some b->i≠id/\fe (G.η i)=some b:=λ i b hb=>by
  by_cases hi:i=id
  .rw[a1S hi,Ii] at hb;cases hb
  .rw[a1B hi] at hb;exact⟨hi,hb⟩
 have hold:∀ j aV cT,(if j=id then some (au.aq τ xs) else lk j)=some (.aq aV cT)->j≠id->lk j=some (.aq aV cT):=λ j aV cT k hj=>by rwa [a1B hj] at k
 exact {
  defers:=h.defers,size:=h.size,aQ:=h.aQ,lE:=h.lE,fc:=h.fc,sX:=h.sX,ed:=h.ed
  ar:=λ i=>(h.ar i).mono (λ j hj=>fQ j (λ e=>by subst e;rw[hs i] at hj;cases hj)) (λ _ h=>h) (λ _ _=>rfl)
  aC:=λ i o' cr=>by
   by_cases hi:i=id
   .subst hi
    simp only[a3z,a1w] at cr
    subst cr
    trivial
   .simp only[a1B hi] at cr
    exact (h.aC i o' cr).mono (by simp only[a1B hi]) (λ _ _=>rfl) (λ j hj=>fQ j (λ e=>by subst e;rw[ho i o' cr] at hj;cases hj)) (λ _ h=>h) (λ _ _=>rfl)
  place:=λ i o' b cr hb=>by
   obtain⟨hi,hb⟩:=kY i b hb
   simp only[a1B hi] at cr
   exact h.place i o' b cr hb
  apart:=λ i j o1 o2 b cr E0 hb cm=>by
   obtain⟨hi,hb⟩:=kY i b hb
   obtain⟨hj,cm⟩:=kY j b cm
   simp only[a1B hi] at cr
   simp only[a1B hj] at E0
   exact h.apart i j o1 o2 b cr E0 hb cm
  aI:={
   tr:=λ j aV cT k=>by
    by_cases hj:j=id
    .subst hj
     simp only[a3z,a1w,au.aq.injEq] at k ⊢
     obtain⟨rfl,k⟩:=k
     have k:=a5c k
     subst k
     exact hT
    .simp only[a1B hj]
     exact h.aI.tr j aV cT (hold j aV cT k hj)
   nd:=λ j aV cT k=>by
    by_cases hj:j=id
    .simp only[a1S hj];exact dq
    .simp only[a1B hj]
     exact h.aI.nd j aV cT (hold j aV cT k hj)
   pl:=λ j aV cT b k hb=>by
    have fin:(∀ i o,lk i=some o->fe (G.η i)≠some b)->∀ i o,(if i=id then some (au.aq τ xs) else lk i)=some o->fe (if i=id then UJ else G.η i)≠some b:=λ hh i o cr e=>by
     obtain⟨hi,e⟩:=kY i b e
     rw[a1B hi] at cr
     exact hh i o cr e
    by_cases hj:j=id
    .simp only[a1S hj] at hb
     obtain⟨q1,q2,q3,q4,q5⟩:=T7 b hb
     exact⟨q1,q2,q3,fin q4⟩
    .simp only[a1B hj] at hb
     obtain⟨q1,q2,q3,q4⟩:=h.aI.pl j aV cT b (hold j aV cT k hj) hb
     exact⟨q1,q2,q3,fin q4⟩
   ap:=λ j j' Nr mD Nq oH b k k' hb cm=>by
    by_cases hj:j=id
    .by_cases BP:j'=id
     .rw[hj,BP]
     .simp only[a1S hj] at hb
      simp only[a1B BP] at cm
      exact absurd cm ((T7 b hb).2.2.2.2 j' mD oH (hold j' mD oH k' BP))
    .by_cases BP:j'=id
     .simp only[a1B hj] at hb
      simp only[a1S BP] at cm
      exact absurd hb ((T7 b cm).2.2.2.2 j Nr Nq (hold j Nr Nq k hj))
     .simp only[a1B hj] at hb
      simp only[a1B BP] at cm
      exact h.aI.ap j j' Nr mD Nq oH b (hold j Nr Nq k hj) (hold j' mD oH k' BP) hb cm }
  root:=λ j v hr ht=>by
   have fP:j≠id:=λ e=>by subst e;rw[a0h] at hr;cases hr
   simp only[a1B fP] at ht ⊢
   exact h.root j v hr ht
  kd:=h.kd
  dE:=λ j v hr ht=>by
   by_cases hj:j=id
   .simp only[a1S hj] at ht;cases ht
   .simp only[a1B hj] at ht ⊢
    exact h.dE j v hr ht
  fW:=h.fW }
def tX(c:Ctx)(G:Gh)(lk:Nat->Option au)(w:World)(b:Nat):Prop :=
 (c.w0.heap.size<=b\/c.X b)/\¬ G.S b/\b<w.heap.size/\(∀ i o,lk i=some o->fe (G.η i)≠some b)/\∀ j τ xs,lk j=some (.aq τ xs)->b∉G.φ j
structure DI(c:Ctx)(G:Gh)(lk lk':Nat->Option au)(w w':World)(rH:Nat->Value)(pZ:Nat->List Nat)(I:Nat->Prop):Prop where
 same:∀ id,¬ I id->lk' id=lk id/\rH id=G.η id/\pZ id=G.φ id
 aq:∀ id,I id->∃ τ xs cT v l l',lk id=some (.aq τ xs)/\lk' id=some (.aq τ cT)/\G.η id = .tuple (v::l).toArray/\rH id = .tuple (v::l').toArray/\jH w' (rH id) τ cT (pZ id)/\(pZ id).Nodup
 X3:∀ id b,I id->b∈pZ id->(∃ dH,I dH/\b∈G.φ dH)\/tX c G lk w' b
 apart:∀ id dH b,I id->I dH->b∈pZ id->b∈pZ dH->id=dH
 heap:∀ b,b<w.heap.size->(∀ id,I id->b∉G.φ id)->w'.heap[b]?=w.heap[b]?
 os:w'.os=w.os
 tape:w'.tape=w.tape
 output:w'.output=w.output
 size:w.heap.size<=w'.heap.size
theorem tX.grow{lk:Nat->Option au}{b:Nat}(h:tX c G lk w b)(hs:w.heap.size<=w'.heap.size):tX c G lk w' b :=
 ⟨h.1,h.2.1,a2c h.2.2.1 hs,h.2.2.2⟩
theorem DI.ZS{rH:Nat->Value}{pZ:Nat->List Nat}{I:Nat->Prop}{lk':Nat->Option au}(t:DI c G lk lk' w w' rH pZ I)(id:Nat):ft (lk id) (lk' id):=by
 by_cases hi:I id
 .obtain⟨τ,xs,cT,_,_,_,h1,h2,_⟩:=t.aq id hi
  rw[h1,h2]
  exact⟨λ h=>(by cases h),(λ e τ xs h=>by cases h),(λ _=>rfl),λ hh=>by cases hh⟩
 .rw[(t.same id hi).1];exact ft.refl _
theorem C1.gi{rH:Nat->Value}{pZ:Nat->List Nat}{I:Nat->Prop}{lk':Nat->Option au}(t:DI c G lk lk' w w' rH pZ I)(cy:∀ b,St c G.S b->w'.heap[b]?=w.heap[b]?){u:AV}{x:Value}(hu:u.Hw=false)(h:C1 c G lk w u x):C1 c ⟨G.S,rH,pZ⟩ lk' w' u x:=by
 have key:(∀ id,u.refs id=true->¬ I id)->C1 c ⟨G.S,rH,pZ⟩ lk' w' u x:=λ hk=>h.mono (λ id aN=>⟨t.ZS id,(t.same id (hk id aN)).2.1⟩) (λ _ h=>h) cy
 have XC:∀ id,cp (lk id)=false->¬ I id:=λ id hn hi=>by
  obtain⟨τ,xs,_,_,_,_,h1,_⟩:=t.aq id hi
  rw[h1] at hn;cases hn
 cases u with
 | aq id =>
  obtain⟨h1,l,h2,h3⟩:=h
  by_cases hi:I id
  .obtain⟨τ,xs,cT,v,l0,l',k1,k2,k3,k4,_⟩:=t.aq id hi
   rw[k3] at h2
   simp only[a2X,a4g,a1C] at h2
   obtain⟨rfl,_⟩:=h2
   exact⟨by rw[k2];rfl,l',k4,h3⟩
  .exact key λ j hj=>by
    have:=a1x (show Nat.beq id j=true from hj)
    subst this;exact hi
 | fL id i off sz =>
  obtain⟨h1,b,n,cap,l,h2,h3⟩:=h
  by_cases hi:I id
  .obtain⟨τ,xs,cT,v,l0,l',k1,k2,k3,k4,_⟩:=t.aq id hi
   rw[k3] at h2
   simp only[a2X,a4g,a1C] at h2
   obtain⟨rfl,_⟩:=h2
   exact⟨by rw[k2];rfl,b,n,cap,l',k4,h3⟩
  .exact key λ j hj=>by
    have:=a1x (show Nat.beq id j=true from hj)
    subst this;exact hi
 | sub id i off sz=>cases hu
 | ptr id off =>
  refine key λ j hj=>?_
  have:=a1x (show Nat.beq id j=true from hj)
  subst this
  obtain⟨_,_,_,h3⟩:=h
  exact XC id (by match hl:lk id,h3 with|some (.box _),_=>rfl)
 | row id =>
  refine key λ j hj=>?_
  have:=a1x (show Nat.beq id j=true from hj)
  subst this
  exact XC id (sL h.2.1)
 | fh id i off =>
  refine key λ j hj=>?_
  have:=a1x (show Nat.beq id j=true from hj)
  subst this
  obtain⟨_,_,_,_,_,_,_,h3,_⟩:=h
  exact XC id (by rw[h3];rfl)
 | mp id =>
  refine key λ j hj=>?_
  have:=a1x (show Nat.beq id j=true from hj)
  subst this
  exact XC id (Ea h.2.1)
 | agg cs=>exact h.elim
 | kr cs=>exact h.elim
 | dw f cs=>exact h.elim
 | _=>exact key λ j hj=>by cases hj
theorem pU:∀ {cs:List AV} {v:AV},AV.pT cs=false->v∈cs->v.Hw=false
 | u::r,v,h,hm=>by
  simp only[AV.pT] at h
  split at h
  .cases h
  .rename_i hu
   rcases a1N.1 hm with rfl|hm
   .exact hu
   .exact pU h hm
theorem CR.gi{rH:Nat->Value}{pZ:Nat->List Nat}{I:Nat->Prop}{lk':Nat->Option au}(t:DI c G lk lk' w w' rH pZ I)(cy:∀ b,St c G.S b->w'.heap[b]?=w.heap[b]?){u:AV}{x:Value}(hu:u.Hw=false)(h:CR c G lk w u x):CR c ⟨G.S,rH,pZ⟩ lk' w' u x:=by
 cases u with
 | az v=>exact fM.mono (G:=G) (G':=⟨G.S,rH,pZ⟩) h (λ _ h=>h) (λ b hb=>cy b (.inl hb))
 | agg cs =>
  obtain⟨l,h1,h2⟩:=h
  exact⟨l,h1,h2.imp λ u y hm hy=>hy.gi t cy (pU (show AV.pT cs=false from hu) hm)⟩
 | _=>exact C1.Rt (C1.gi t cy hu h)
theorem VR.gi{rH:Nat->Value}{pZ:Nat->List Nat}{I:Nat->Prop}{lk':Nat->Option au}(t:DI c G lk lk' w w' rH pZ I)(cy:∀ b,St c G.S b->w'.heap[b]?=w.heap[b]?){u:AV}{x:Value}(hu:u.Hw=false)(h:VR c G lk w u x):VR c ⟨G.S,rH,pZ⟩ lk' w' u x:=by
 cases u with
 | az v=>exact fM.mono (G:=G) (G':=⟨G.S,rH,pZ⟩) h (λ _ h=>h) (λ b hb=>cy b (.inl hb))
 | agg cs =>
  obtain⟨l,h1,h2⟩:=h
  exact⟨l,h1,h2.imp λ u y hm hy=>hy.gi t cy (pU (show AV.pT cs=false from hu) hm)⟩
 | kr vs =>
  obtain⟨l,h1,h2⟩:=h
  refine⟨l,h1,h2.imp λ u y hm hy=>?_⟩
  have V3:=pU (show AV.pT vs=false from hu) hm
  cases u with
  | any=>trivial
  | az v=>exact fM.mono (G:=G) (G':=⟨G.S,rH,pZ⟩) hy (λ _ h=>h) (λ b hb=>cy b (.inl hb))
  | aq i=>exact C1.gi (u := .aq i) t cy rfl hy
  | agg cs =>
   obtain⟨l,h1,h2⟩:=hy
   exact⟨l,h1,h2.imp λ u y hm hy=>hy.gi t cy (pU (show AV.pT cs=false from V3) hm)⟩
  | _=>exact hy.elim
 | any=>trivial
 | eV=>exact h
 | nil=>exact (C1.gi (u := .nil) t cy hu h).iA
 | gK u=>exact (C1.gi (u := .gK u) t cy hu h).iA
 | ptr i o=>exact (C1.gi (u := .ptr i o) t cy hu h).iA
 | row i=>exact (C1.gi (u := .row i) t cy hu h).iA
 | fh i k o=>exact (C1.gi (u := .fh i k o) t cy hu h).iA
 | fn f=>exact (C1.gi (u := .fn f) t cy hu h).iA
 | aq i=>exact (C1.gi (u := .aq i) t cy hu h).iA
 | sub i k o z=>cases hu
 | mp i=>exact (C1.gi (u := .mp i) t cy hu h).iA
 | fL i k o z=>exact (C1.gi (u := .fL i k o z) t cy hu h).iA
 | jO v=>exact (C1.gi (u := .jO v) t cy hu h).iA
 | dw f cs =>
  obtain⟨l,h1,h2⟩:=h
  exact⟨l,h1,h2.imp λ u y hm hy=>hy.gi t cy (pU (show AV.pT cs=false from hu) hm)⟩
theorem bc.gi(h:bc c G sl n lk a w){rH:Nat->Value}{pZ:Nat->List Nat}{I:Nat->Prop}{lk':Nat->Option au}(t:DI c G lk lk' w w' rH pZ I)(hs:∀ i,(sl i).Hw=false)(LI:∀ id cs,lk id=some (.box cs)->AV.pT cs=false) :
  bc c ⟨G.S,rH,pZ⟩ sl n lk' a w':=by
 have pl:∀ id b,I id->b∈G.φ id->(c.w0.heap.size<=b\/c.X b)/\¬ G.S b/\b<w.heap.size/\∀ i o,lk i=some o->fe (G.η i)≠some b:=λ id b hi hb=>by
  obtain⟨τ,xs,_,_,_,_,h1,_⟩:=t.aq id hi
  exact h.aI.pl id τ xs b h1 hb
 have Th:∀ b,b<w.heap.size->((c.w0.heap.size<=b\/c.X b)->False)->w'.heap[b]?=w.heap[b]?:=λ b hb hn=>t.heap b hb λ id hi jP=>hn (pl id b hi jP).1
 have cy:∀ b,St c G.S b->w'.heap[b]?=w.heap[b]?:=λ b hb=>by
  rcases hb with hb|hb
  .exact t.heap b (h.ed b hb) λ id hi jP=>(pl id b hi jP).2.1 hb
  .exact Th b (a2c hb.1 h.aQ.size) λ hn=>hn.elim (λ q=>by omega) hb.2.1
 have kY:∀ id o b,lk id=some o->fe (G.η id)=some b->w'.heap[b]?=w.heap[b]?:=λ id o b ho hb =>
  t.heap b (h.place id o b ho hb).2.2 λ j hj jP=>(pl j b hj jP).2.2.2 id o ho hb
 have fB:∀ id b,fe (rH id)=some b->¬ I id/\fe (G.η id)=some b:=λ id b hb=>by
  by_cases hi:I id
  .obtain⟨_,_,_,_,_,_,_,_,_,h4,_⟩:=t.aq id hi
   rw[h4] at hb;cases hb
  .rw[(t.same id hi).2.1] at hb;exact⟨hi,hb⟩
 have qW:∀ id τ xs b,lk' id=some (.aq τ xs)->b∈pZ id->(∃ dH aV cT,lk dH=some (.aq aV cT)/\b∈G.φ dH/\(¬ I id->dH=id)/\(I id->I dH))\/(I id/\tX c G lk w' b):=λ id τ xs b aN hb=>by
  by_cases hi:I id
  .rcases t.X3 id b hi hb with ⟨dH,oV,cm⟩|Pg
   .obtain⟨aV,cT,_,_,_,_,h1,_⟩:=t.aq dH oV
    exact .inl ⟨dH,aV,cT,h1,cm,λ hn=>absurd hi hn,λ _=>oV⟩
   .exact .inr ⟨hi,Pg⟩
  .obtain⟨h1,h2,h3⟩:=t.same id hi
   rw[h1] at aN
   rw[h3] at hb
   exact .inl ⟨id,τ,xs,aN,hb,λ _=>rfl,λ oV=>absurd oV hi⟩
 exact {
  defers:=h.defers,size:=h.size
  aQ:=h.aQ.trans (Y:=λ b=>c.w0.heap.size<=b\/c.X b) ⟨t.os,t.tape,t.output,t.size,λ b hb hn=>Th b hb hn⟩ λ i hi hy=>hy.elim (λ q=>by omega) id
  lE:=h.lE,fc:=h.fc,sX:=h.sX
  ed:=λ b hb=>a2c (h.ed b hb) t.size
  ar:=λ i=>(h.ar i).gi t cy (hs i)
  aC:=λ id o aN=>by
   by_cases hi:I id
   .obtain⟨τ,xs,cT,_,_,_,_,h2,_⟩:=t.aq id hi
    rw[h2] at aN
    simp only[a1w] at aN
    subst aN
    trivial
   .obtain⟨h1,h2,h3⟩:=t.same id hi
    rw[h1] at aN
    have ho:=h.aC id o aN
    cases o with
    | box cs =>
     obtain⟨b,l,ty,k1,k2,k3⟩:=ho
     refine⟨b,l,ty,h2.trans k1,?_,k3.imp λ u y hm hy=>hy.gi t cy (pU (LI id cs aN) hm)⟩
     rw[kY id _ b aN (by rw[k1];rfl)];exact k2
    | row e τ xs =>
     obtain⟨l,k1,k2,k3⟩:=ho
     refine⟨l,?_,fJ.aQ (λ _ h=>h) (λ b hb=>cy b (.inl hb)) _ k2,k3⟩
     rw[show (⟨G.S,rH,pZ⟩:Gh).η id=G.η id from h2]
     exact Ec k1 λ b hb=>kY id _ b aN hb
    | aq τ xs=>trivial
    | map m =>
     obtain⟨b,es,clock,k1,k2,k3⟩:=ho
     exact⟨b,es,clock,h2.trans k1,(kY id _ b aN (by rw[k1];rfl)).trans k2,k3⟩
  place:=λ id o b aN hb=>by
   obtain⟨hi,hb⟩:=fB id b hb
   rw[(t.same id hi).1] at aN
   obtain⟨q1,q2,q3⟩:=h.place id o b aN hb
   exact⟨q1,q2,a2c q3 t.size⟩
  apart:=λ id dH o o' b aN BN hb cm=>by
   obtain⟨hi,hb⟩:=fB id b hb
   obtain⟨oV,cm⟩:=fB dH b cm
   rw[(t.same id hi).1] at aN
   rw[(t.same dH oV).1] at BN
   exact h.apart id dH o o' b aN BN hb cm
  aI:={
   tr:=λ id τ xs aN=>by
    by_cases hi:I id
    .obtain⟨τ0,xs0,cT,v,l,l',h1,h2,h3,h4,h5,h6⟩:=t.aq id hi
     rw[h2] at aN
     simp only[a1w,au.aq.injEq] at aN
     obtain⟨rfl,aN⟩:=aN
     have aN:=a5c aN
     subst aN
     exact h5
    .obtain⟨h1,h2,h3⟩:=t.same id hi
     rw[h1] at aN
     rw[show (⟨G.S,rH,pZ⟩:Gh).η id=G.η id from h2,show (⟨G.S,rH,pZ⟩:Gh).φ id=G.φ id from h3]
     exact (h.aI.tr id τ xs aN).aQ λ b hb=>t.heap b (h.aI.pl id τ xs b aN hb).2.2.1 λ j hj jP=>by
      obtain⟨aV,cT,_,_,_,_,k1,_⟩:=t.aq j hj
      have:=h.aI.ap id j τ aV xs cT b aN k1 hb jP
      subst this
      exact hi hj
   nd:=λ id τ xs aN=>by
    by_cases hi:I id
    .obtain⟨_,_,_,_,_,_,_,_,_,_,_,h6⟩:=t.aq id hi
     exact h6
    .obtain⟨h1,h2,h3⟩:=t.same id hi
     rw[h1] at aN
     rw[show (⟨G.S,rH,pZ⟩:Gh).φ id=G.φ id from h3]
     exact h.aI.nd id τ xs aN
   pl:=λ id τ xs b aN hb=>by
    have hq:(c.w0.heap.size<=b\/c.X b)/\¬ G.S b/\b<w'.heap.size/\∀ i o,lk i=some o->fe (G.η i)≠some b:=by
     rcases qW id τ xs b aN hb with ⟨dH,aV,cT,k1,k2,_⟩|⟨_,f1,f2,f3,f4,_⟩
     .obtain⟨f1,f2,f3,f4⟩:=h.aI.pl dH aV cT b k1 k2
      exact⟨f1,f2,a2c f3 t.size,f4⟩
     .exact⟨f1,f2,f3,f4⟩
    obtain⟨q1,q2,q3,q4⟩:=hq
    refine⟨q1,q2,q3,λ i o cr qT=>?_⟩
    obtain⟨hi,qT⟩:=fB i b qT
    rw[(t.same i hi).1] at cr
    exact q4 i o cr qT
   ap:=λ id dH τ aV xs cT b aN BN hb cm=>by
    by_cases hi:I id
    .by_cases oV:I dH
     .exact t.apart id dH b hi oV hb cm
     .rcases qW dH aV cT b BN cm with ⟨j',mD,oH,m1,m2,m3,_⟩|⟨q,_⟩
      .rcases qW id τ xs b aN hb with ⟨j,Nr,Nq,k1,k2,_,k4⟩|⟨_,Pg⟩
       .have:=h.aI.ap j j' _ _ _ _ b k1 m1 k2 m2
        have e:=m3 oV
        subst e this
        exact absurd (k4 hi) oV
       .exact absurd m2 (Pg.2.2.2.2 j' mD oH m1)
      .exact absurd q oV
    .by_cases oV:I dH
     .rcases qW id τ xs b aN hb with ⟨j,Nr,Nq,k1,k2,k3,_⟩|⟨q,_⟩
      .rcases qW dH aV cT b BN cm with ⟨j',mD,oH,m1,m2,_,m4⟩|⟨_,Pg⟩
       .have:=h.aI.ap j j' _ _ _ _ b k1 m1 k2 m2
        have e:=k3 hi
        subst e this
        exact absurd (m4 oV) hi
       .exact absurd k2 (Pg.2.2.2.2 j Nr Nq k1)
      .exact absurd q hi
     .rcases qW id τ xs b aN hb with ⟨j,Nr,Nq,k1,k2,k3,_⟩|⟨q,_⟩
      .rcases qW dH aV cT b BN cm with ⟨j',mD,oH,m1,m2,m3,_⟩|⟨q,_⟩
       .have:=h.aI.ap j j' _ _ _ _ b k1 m1 k2 m2
        exact (k3 hi).symm.trans (this.trans (m3 oV))
       .exact absurd q oV
      .exact absurd q hi }
  root:=λ id v hr ht=>by
   by_cases hi:I id
   .obtain⟨τ,xs,cT,v0,l,l',k1,k2,k3,k4,_⟩:=t.aq id hi
    obtain⟨l2,h2⟩:=h.root id v hr (by rw[k1];rfl)
    rw[k3] at h2
    simp only[a2X,a4g,a1C] at h2
    obtain⟨rfl,_⟩:=h2
    exact⟨l',k4⟩
   .obtain⟨h1,h2,_⟩:=t.same id hi
    rw[h1] at ht
    rw[show (⟨G.S,rH,pZ⟩:Gh).η id=G.η id from h2]
    exact h.root id v hr ht
  kd:=h.kd
  dE:=λ id v hr ht=>by
   by_cases hi:I id
   .obtain⟨τ,xs,cT,v0,l,l',k1,k2,k3,k4,_⟩:=t.aq id hi
    rw[k2] at ht
    cases ht
   .obtain⟨h1,h2,_⟩:=t.same id hi
    rw[h1] at ht
    rw[show (⟨G.S,rH,pZ⟩:Gh).η id=G.η id from h2]
    exact h.dE id v hr ht
  fW:=h.fW }
theorem bc.Mr(h:bc c G sl n lk a w){d:Nat}(hd:lk d=none):(∀ i,(sl i).refs d=false)/\∀ i o,lk i=some o->o.refs d=false:=by
 have c1:∀ (v:AV) (x:Value),C1 c G lk w v x->v.refs d=true->False:=λ v x hv hr=>by
  have ky:∀ i,Nat.beq i d=true->im (lk i)=false/\isRow (lk i)=false/\cp (lk i)=false/\∀ e τ xs,lk i≠some (.row e τ xs):=λ i hi=>by
   have:=a1x hi
   subst this
   rw[hd]
   exact⟨rfl,rfl,rfl,λ _ _ _=>by simp⟩
  cases v with
  | ptr i o=>obtain⟨_,_,_,h3⟩:=hv;rw[(ky i hr).1] at h3;cases h3
  | row i=>obtain⟨_,h3,_⟩:=hv;rw[(ky i hr).2.1] at h3;cases h3
  | fh i k o=>obtain⟨_,_,_,_,_,_,_,h3,_⟩:=hv;exact (ky i hr).2.2.2 _ _ _ h3
  | aq i=>have h3:=hv.1;rw[(ky i hr).2.2.1] at h3;cases h3
  | sub i k o z=>have h3:=hv.1;rw[(ky i hr).2.2.1] at h3;cases h3
  | fL i k o z=>have h3:=hv.1;rw[(ky i hr).2.2.1] at h3;cases h3
  | mp i =>
   have h3:=hv.2.1
   have:=a1x (show Nat.beq i d=true from hr)
   subst this
   rw[hd] at h3;cases h3
  | agg cs=>exact hv
  | kr cs=>exact hv
  | dw f cs=>exact hv
  | _=>cases hr
 have cL:∀ (cs:List AV) (l:List Value),aJ (C1 c G lk w) cs l->AV.iq d cs=true->False:=by
  intro cs
  induction cs with
  | nil=>intro l _ hr;cases hr
  | cons v r ih =>
   intro l hl hr
   match l,hl with
   | x::l,hl =>
    simp only[AV.iq] at hr
    split at hr
    .rename_i hv;exact c1 v x hl.1 hv
    .exact ih l hl.2 hr
 refine⟨λ i=>?_,λ i o ho=>?_⟩
 .cases hr:(
        sl i).refs d with
  | false=>rfl
  | true =>
   have hv:=h.ar i
   revert hv hr
   generalize a.tmps.getD i undef=x
   cases sl i with
   | az u=>intro hr;cases hr
   | agg cs =>
    intro hr hv
    obtain⟨l,_,hl⟩:=hv
    exact (cL cs l hl hr).elim
   | kr vs =>
    intro hr hv
    obtain⟨l,_,hl⟩:=hv
    have:∀ (
         vs:List AV) (l:List Value),aJ (TR c G lk w) vs l->AV.iq d vs=true->False:=by
     intro vs
     induction vs with
     | nil=>intro l _ hr;cases hr
     | cons v r ih =>
      intro l hl hr
      match l,hl with
      | x::l,hl =>
       simp only[AV.iq] at hr
       split at hr
       .rename_i hv
        have h1:=hl.1
        cases v with
        | aq i=>exact c1 (.aq i) x h1 hv
        | agg cs =>
         obtain⟨l',_,oo⟩:=h1
         exact cL cs l' oo hv
        | az u=>cases hv
        | any=>cases hv
        | _=>exact h1
       .exact ih l hl.2 hr
    exact (this vs l hl hr).elim
   | dw f vs =>
    intro hr hv
    obtain⟨l,_,hl⟩:=hv
    have:∀ (vs:List AV) (l:List Value),aJ (CR c G lk w) vs l->AV.iq d vs=true->False:=by
     intro vs
     induction vs with
     | nil=>intro l _ hr;cases hr
     | cons v r ih =>
      intro l hl hr
      match l,hl with
      | x::l,hl =>
       simp only[AV.iq] at hr
       split at hr
       .rename_i hv
        rcases hl.1.inv with ⟨u,rfl,_⟩|⟨cs,l',rfl,_,oo⟩|h1
        .cases hv
        .exact cL cs l' oo hv
        .exact c1 _ x h1 hv
       .exact ih l hl.2 hr
    exact (this vs l hl hr).elim
   | any=>intro hr;cases hr
   | eV=>intro hr;cases hr
   | nil=>intro hr;cases hr
   | gK u=>intro hr;cases hr
   | fn f=>intro hr;cases hr
   | jO v=>intro hr;cases hr
   | ptr i o=>intro hr hv;exact (c1 (.ptr i o) x hv hr).elim
   | row i=>intro hr hv;exact (c1 (.row i) x hv hr).elim
   | fh i k o=>intro hr hv;exact (c1 (.fh i k o) x hv hr).elim
   | aq i=>intro hr hv;exact (c1 (.aq i) x hv hr).elim
   | sub i k o z=>intro hr hv;exact (c1 (.sub i k o z) x hv hr).elim
   | fL i k o z=>intro hr hv;exact (c1 (.fL i k o z) x hv hr).elim
   | mp i=>intro hr hv;exact (c1 (.mp i) x hv hr).elim
 .cases hr:o.refs d with
  | false=>rfl
  | true =>
   cases o with
   | row e τ xs=>cases hr
   | aq τ xs=>cases hr
   | map m=>cases hr
   | box cs =>
    obtain⟨b,l,t,_,_,k3⟩:=h.aC i _ ho
    exact (cL cs l k3 hr).elim
structure Ext(G:Gh)(lk:Nat->Option au)(G':Gh)(lk':Nat->Option au):Prop where
 S:G'.S=G.S
 Up:∀ i o,lk i=some o->lk' i=some o/\G'.η i=G.η i/\G'.φ i=G.φ i
theorem Ext.refl(G:Gh)(lk:Nat->Option au):Ext G lk G lk:=⟨rfl,λ _ _ h=>⟨h,rfl,rfl⟩⟩
theorem Ext.trans{G1 G2 G3:Gh}{l1 l2 l3:Nat->Option au}(h:Ext G1 l1 G2 l2)(k:Ext G2 l2 G3 l3):Ext G1 l1 G3 l3 :=
 ⟨k.S.trans h.S,λ i o ho=>by
  obtain⟨a1,a2,a3⟩:=h.Up i o ho
  obtain⟨b1,b2,b3⟩:=k.Up i o a1
  exact⟨b1,b2.trans a2,b3.trans a3⟩⟩
theorem C1.ext{G':Gh}{lk':Nat->Option au}(e:Ext G lk G' lk'){v:AV}{x:Value}(h:C1 c G lk w v x):C1 c G' lk' w v x:=by
 refine h.mono (λ id aN=>?_) (λ b hb=>by rw[e.S];exact hb) (λ _ _=>rfl)
 have fP:lk id≠none:=λ hn=>by
  cases v with
  | ptr i o=>have:=a1x (show Nat.beq i id=true from aN);subst this;obtain⟨_,_,_,h3⟩:=h;rw[hn] at h3;cases h3
  | row i=>have:=a1x (show Nat.beq i id=true from aN);subst this;obtain⟨_,h3,_⟩:=h;rw[hn] at h3;cases h3
  | fh i k o=>have:=a1x (show Nat.beq i id=true from aN);subst this;obtain⟨_,_,_,_,_,_,_,h3,_⟩:=h;rw[hn] at h3;cases h3
  | aq i=>have:=a1x (show Nat.beq i id=true from aN);subst this;have h3:=h.1;rw[hn] at h3;cases h3
  | sub i k o z=>have:=a1x (show Nat.beq i id=true from aN);subst this;have h3:=h.1;rw[hn] at h3;cases h3
  | fL i k o z=>have:=a1x (show Nat.beq i id=true from aN);subst this;have h3:=h.1;rw[hn] at h3;cases h3
  | mp i=>have:=a1x (show Nat.beq i id=true from aN);subst this;have h3:=h.2.1;rw[hn] at h3;cases h3
  | agg cs=>exact h
  | kr cs=>exact h
  | dw f cs=>exact h
  | _=>cases aN
 match hl:lk id,fP with
 | some o,_ =>
  obtain⟨h1,h2,_⟩:=e.Up id o hl
  rw[h1]
  exact⟨ft.refl _,h2⟩
def Fr(c:Ctx)(G:Gh)(lk:Nat->Option au)(w:World)(fp:List Nat):Prop :=
 ∀ b∈fp,(c.w0.heap.size<=b\/c.X b)/\¬ G.S b/\b<w.heap.size/\(∀ i o,lk i=some o->fe (G.η i)≠some b)/\∀ j τ xs,lk j=some (.aq τ xs)->b∉G.φ j
def iD(news:List (Nat×au))(lk:Nat->Option au)(i:Nat):Option au:=match ae news i with
 | some o=>some o
 | none=>lk i
theorem Wh(lk:Nat->Option au):iD [] lk=lk:=rfl
theorem Ue(id:Nat)(o:au)(r:List (Nat×au))(lk:Nat->Option au)(hr:ae r id=none):iD r (λ i=>if i=id then some o else lk i)=iD ((id,o)::r) lk:=by
 funext i
 unfold iD
 rw[dM]
 by_cases hi:i=id
 .subst hi;rw[hr];simp
 .simp[hi]
theorem Jy:∀ (r r':List (Nat×au)) (lk:Nat->Option au),iD (r++r') lk=iD r (iD r' lk)
 | [],r',lk=>rfl
 | (id,o)::r,r',lk=>by
  funext i
  have:=congrFun (Jy r r' lk) i
  unfold iD at this ⊢
  rw[a2I,dM,dM]
  by_cases hi:i=id
  .simp[hi]
  .simpa [hi] using this
theorem jH.Py{τ:Ty}{xs:List τ.den}{x:Value}{fp:List Nat}(h:Ow w (.slice τ.size (xs.map τ.aT)) [x] fp):∃ l,jH w (.tuple (x::l).toArray) τ xs fp/\∃ a n m,x = .slice a n m:=by
 obtain⟨a',cap,h1,h2,h3,h4,h5⟩:=h
 simp only[a1C,a1H,a2J] at h1 h2 h4
 subst h1
 rcases h5 with ⟨hx,ha,hf⟩|⟨b,f,l,t,ha,hf,k1,k2⟩
 .refine⟨[],⟨_,[],a',cap,rfl,rfl,h2,h3,h4, .inl ⟨?_,ha,hf⟩⟩,_,_,_,rfl⟩
  simpa using hx
 .exact⟨l,⟨_,l,a',cap,rfl,rfl,h2,h3,h4, .inr ⟨b,f,t,ha,hf,k1,k2⟩⟩,_,_,_,rfl⟩
theorem Ow.Ws{η:Value}{τ:Ty}{xs:List τ.den}{fp:List Nat}(h:jH w η τ xs fp){x:Value}{l:List Value}(hx:η = .tuple (x::l).toArray):Ow w (.slice τ.size (xs.map τ.aT)) [x] fp:=by
 obtain⟨v,l',a',cap,h1,h2,h3,h4,h5,h6⟩:=h
 rw[hx] at h1
 simp only[a2X,a4g,a1C] at h1
 obtain⟨rfl,rfl⟩:=h1
 refine⟨a',cap,by simp[h2],by simpa using h3,h4,by simpa using h5,?_⟩
 rcases h6 with ⟨rfl,q1,q2⟩|⟨b,f,t,q1,q2,q3,q4⟩
 .exact .inl ⟨rfl,q1,q2⟩
 .exact .inr ⟨b,f,l,t,q1,q2,q3,q4⟩
theorem gI:∀ {l:List (Nat×au)} {id:Nat} {o:au},ae l id=some o->(id,o)∈l
 | (k,p)::r,id,o,h=>by
  simp only[ae] at h
  split at h
  .rename_i hk
   have hk:=a1x hk
   simp only[a1w] at h
   subst hk h
   simp
  .exact a3m _ (gI h)
theorem bc.UU(h:bc c G sl n lk a w){u:TV}(hu:u.τ.agg=false){x:Value}{fp:List Nat}{id:Nat}(hO:Ow w u.aT [x] fp)(dq:fp.Nodup)(hF:Fr c G lk w fp)(aN:∀ p∈gN id u,lk p.1=none)(hR:c.R id=none) :
  ∃ G',bc c G' sl n (iD (gN id u) lk) a w/\Ext G lk G' (iD (gN id u) lk)/\C1 c G' (iD (gN id u) lk) w (kc id u) x /\
   ∀ fq,Fr c G lk w fq->(∀ b∈fq,b∉fp)->Fr c G' (iD (gN id u) lk) w fq:=by
 have wR:(gN id u=[]/\kc id u = .az u)->∃ G',bc c G' sl n (iD (gN id u) lk) a w/\Ext G lk G' (iD (gN id u) lk)/\C1 c G' (iD (gN id u) lk) w (kc id u) x /\
   ∀ fq,Fr c G lk w fq->(∀ b∈fq,b∉fp)->Fr c G' (iD (gN id u) lk) w fq:=by
  rintro⟨e1,e2⟩
  rw[e1,e2]
  exact⟨G,h,Ext.refl _ _,⟨hu,hO.rd (S:=λ b=>b∈fp) _ (λ _ h=>h) |> λ hr=>by
   obtain⟨τ,y⟩:=u
   cases τ with
   | slice t=>simp[gN] at e1
   | mv t=>simp[kc] at e2
   | ptr=>exact hr
   | st s=>cases hu
   | int k=>exact hr
   | bool=>exact hr
   | str=>exact hr⟩,λ fq hq _=>hq⟩
 obtain⟨τ,y⟩:=u
 cases τ with
 | mv t=>exact⟨G,h,Ext.refl _ _,trivial,λ fq hq _=>hq⟩
 | slice t =>
  obtain⟨l,hT,Dw⟩:=jH.Py (τ:=t) (xs:=y) hO
  have hn:lk id=none:=aN (id, .aq t y) (by simp[gN])
  obtain⟨J2,Sf⟩:=h.Mr hn
  have hI:=h.Mn id t y _ fp hn J2 Sf hR hT dq hF
  have cu:iD (gN id ⟨.slice t,y⟩) lk=λ i=>if i=id then some (.aq t y) else lk i:=by
   rw[<-Wh (λ i=>if i=id then some (au.aq t y) else lk i),Ue id _ [] lk rfl];rfl
  rw[cu]
  refine⟨_,hI,⟨rfl,λ i o ho=>?_⟩,⟨by simp[cp],l,by simp,Dw⟩,λ fq hq wk b hb=>?_⟩
  .have hi:i≠id:=λ e=>by subst e;rw[hn] at ho;cases ho
   simp[hi,ho]
  .obtain⟨q1,q2,q3,q4,q5⟩:=hq b hb
   refine⟨q1,q2,q3,λ i o cr e=>?_,λ j τ xs hj=>?_⟩
   .by_cases hi:i=id
    .simp only[a1S hi] at e
     cases e
    .simp only[a1B hi] at cr e
     exact q4 i o cr e
   .by_cases hi:j=id
    .simp only[a1S hi];exact wk b hb
    .simp only[a1B hi] at hj ⊢
     exact q5 j τ xs hj
 | st s=>cases hu
 | ptr=>exact wR ⟨rfl,rfl⟩
 | int k=>exact wR ⟨rfl,rfl⟩
 | bool=>exact wR ⟨rfl,rfl⟩
 | str=>exact wR ⟨rfl,rfl⟩
theorem JA{id:Nat}{u:TV}{p:Nat×au}(h:p∈gN id u):p.1=id:=by
 obtain⟨τ,y⟩:=u
 cases τ<;>simp[gN] at h
 rw[h]
theorem Ma{r:List (Nat×au)}{i:Nat}(h:∀ p∈r,p.1≠i):ae r i=none:=by
 induction r with
 | nil=>rfl
 | cons p r ih =>
  obtain⟨k,o⟩:=p
  rw[dM,a1B (λ e=>h (k,o) (by simp) e.symm)]
  exact ih λ q hq=>h q (by simp[hq])
theorem bc.xR:∀ {us:List TV} {cs:List Value} {fp:List Nat} {id:Nat} {G:Gh} {lk:Nat->Option au},bc c G sl n lk a w->(∀ u∈us,u.τ.agg=false)->dA w (us.map TV.aT) cs fp->fp.Nodup->Fr c G lk w fp ->
  (∀ p∈bS id us,lk p.1=none)->((bS id us).map (·.1)).Nodup->(∀ j,id<=j->c.R j=none) ->
  ∃ G' lk',(∀ i,lk' i=iD (bS id us) lk i)/\bc c G' sl n lk' a w/\Ext G lk G' lk'/\aJ (C1 c G' lk' w) (bU id us) cs/\∀ fq,Fr c G lk w fq->(∀ b∈fq,b∉fp)->Fr c G' lk' w fq
 | [],cs,fp,id,G,lk,h,_,hO,_,_,_,_,_=>by
  obtain⟨rfl,rfl⟩:=hO
  exact⟨G,lk,λ _=>rfl,h,Ext.refl _ _,trivial,λ fq hq _=>hq⟩
 | u::us,cs,fp,id,G,lk,h,hu,hO,dq,hF,aN,rL,hR=>by
  obtain⟨v,r,f1,f2,rfl,rfl,h1,h2⟩:=hO
  rw[a1X] at dq
  obtain⟨Sx,Sy,Q3⟩:=dq
  simp only[bS,a3s] at rL
  rw[a1X] at rL
  obtain⟨d1,d2,d3⟩:=rL
  obtain⟨G1,i1,e1,c1,RY⟩:=h.UU (id:=id) (hu u (by simp)) h1 Sx (λ b hb=>hF b (by simp[hb])) (λ p hp=>aN p (by simp[bS,hp])) (hR id (a2u _))
  have fP:∀ p∈bS (id+1) us,ae (gN id u) p.1=none:=λ p hp=>Ma λ q hq e=>d3 q.1 (a1D.2 ⟨q,hq,rfl⟩) p.1 (a1D.2 ⟨p,hp,rfl⟩) e
  obtain⟨G2,lk2,k1,k2,k3,k4,k5⟩:=bc.xR (us:=us) (cs:=r) (fp:=f2) (id:=id+1) i1 (λ u V3=>hu u (by simp[V3])) h2 Sy
   (RY f2 (λ b hb=>hF b (by simp[hb])) (λ b hb cm=>Q3 b cm b hb rfl)) (λ p hp=>by unfold iD;rw[fP p hp];exact aN p (by simp[bS,hp])) d2 (λ j hj=>hR j (by omega))
  refine⟨G2,lk2,λ i=>?_,k2,e1.trans k3,⟨c1.ext k3,k4⟩,λ fq hq wk=>k5 fq (RY fq hq λ b hb cm=>wk b hb (by simp[cm])) λ b hb cm=>wk b hb (by simp[cm])⟩
  rw[k1 i]
  simp only[bS]
  unfold iD
  have a0j:∀ (r r':List (Nat×au)) (j:Nat),ae (r++r') j=match ae r j with|some o=>some o|none=>ae r' j:=by
   intro r r' j
   induction r with
   | nil=>rfl
   | cons p r ih =>
    obtain⟨k,o⟩:=p
    rw[a2I,dM,dM]
    by_cases hj:j=k
    .simp[hj]
    .simpa [hj] using ih
  rw[a0j]
  cases hx:ae (bS (id+1) us) i with
  | none=>simp only[];cases ae (gN id u) i<;>rfl
  | some o =>
   simp only[]
   have hm:=gI hx
   rw[fP _ hm]
theorem Ep(s:aM)(y:s.den):∀ u∈s.cells y,u.τ.agg=false:=λ u hu=>by
 have:=aM.qo s y u hu
 obtain⟨aV,z'⟩:=u
 cases aV with
 | st s'=>simp[TV.aT,Ty.aT,aM.cq,D.leaf] at this
 | _=>rfl
theorem TR.ext{G':Gh}{lk':Nat->Option au}(e:Ext G lk G' lk'){v:AV}{x:Value}(h:TR c G lk w v x):TR c G' lk' w v x:=by
 cases v with
 | any=>trivial
 | az v=>exact fM.mono (G:=G) (G':=G') h (λ b hb=>by rw[e.S];exact hb) (λ _ _=>rfl)
 | aq i=>exact C1.ext (c:=c) (w:=w) (v := .aq i) e h
 | agg cs =>
  obtain⟨l,h1,h2⟩:=h
  exact⟨l,h1,h2.imp λ u y _ hy=>hy.ext e⟩
 | _=>exact h.elim
theorem TR.iA{v:AV}{x:Value}(h:TR c G lk w v x):VR c G lk w v x:=by
 cases v with
 | any=>trivial
 | az v=>exact h
 | aq i=>exact h
 | agg cs=>exact h
 | _=>exact h.elim
theorem C1.a0Q{id:Nat}{u:TV}{x:Value}(h:C1 c G lk w (kc id u) x)(hu:u.τ.agg=false):TR c G lk w (kc id u) x:=by
 obtain⟨τ,y⟩:=u
 cases τ with
 | slice t=>exact h
 | mv t=>exact h
 | ptr=>exact h.2
 | st s=>cases hu
 | int k=>exact h.2
 | bool=>exact h.2
 | str=>exact h.2
theorem bc.Ku{v:TV}{x:Value}{fp:List Nat}{id:Nat}{G:Gh}{lk:Nat->Option au}(h:bc c G sl n lk a w)(hO:xQ w v x fp)(dq:fp.Nodup)(hF:Fr c G lk w fp)
  (aN:∀ p∈bS id v.cells,lk p.1=none) (rL:((bS id v.cells).map (·.1)).Nodup) (hR:∀ j,id<=j->c.R j=none) :
  ∃ G' lk',(∀ i,lk' i=iD (bS id v.cells) lk i)/\bc c G' sl n lk' a w/\Ext G lk G' lk'/\TR c G' lk' w (fV id v) x/\∀ fq,Fr c G lk w fq->(∀ b∈fq,b∉fp)->Fr c G' lk' w fq:=by
 have one:v.τ.agg=false->v.cells=[v]->fV id v=kc id v->Ow w v.aT [x] fp->∃ G' lk',(∀ i,lk' i=iD (bS id v.cells) lk i)/\bc c G' sl n lk' a w/\Ext G lk G' lk'/\TR c G' lk' w (fV id v) x/\∀ fq,Fr c G lk w fq->(∀ b∈fq,b∉fp)->Fr c G' lk' w fq:=by
  intro hv hc hov hO
  rw[hc] at aN rL
  obtain⟨G',lk',k1,k2,k3,k4,k5⟩:=h.xR (us:=[v]) (cs:=[x]) (fp:=fp) (by simpa using hv) ⟨x,[],fp,[],rfl,by simp,hO,rfl,rfl⟩ dq hF aN rL hR
  rw[hc,hov]
  exact⟨G',lk',k1,k2,k3,C1.a0Q k4.1 hv,k5⟩
 obtain⟨τ,y⟩:=v
 cases τ with
 | st s =>
  obtain⟨cs,rfl,hO⟩:=hO
  rw[aM.cq] at hO
  obtain⟨G',lk',k1,k2,k3,k4,k5⟩:=h.xR (us:=s.cells y) (cs:=cs) (fp:=fp) (Ep s y) hO dq hF aN rL hR
  exact⟨G',lk',k1,k2,k3,⟨cs,rfl,k4⟩,k5⟩
 | slice t=>exact one rfl rfl rfl hO
 | mv t=>exact one rfl rfl rfl hO
 | ptr=>exact one rfl rfl rfl hO
 | int k=>exact one rfl rfl rfl hO
 | bool=>exact one rfl rfl rfl hO
 | str=>exact one rfl rfl rfl hO
theorem Ud{r r':List (Nat×au)}(hd:∀ p∈r',ae r p.1=none)(lk:Nat->Option au)(i:Nat):iD r' (iD r lk) i=iD (r++r') lk i:=by
 rw[Jy]
 unfold iD
 cases hx:ae r' i with
 | none=>rfl
 | some o =>
  have:=hd _ (gI hx)
  simp only[] at this ⊢
  rw[this]
theorem bc.FJ:∀ {vs:List TV} {xs:List Value} {fp:List Nat} {id:Nat} {G:Gh} {lk:Nat->Option au},bc c G sl n lk a w->FG w vs xs fp->fp.Nodup->Fr c G lk w fp ->
  (∀ p∈bg id vs,lk p.1=none)->((bg id vs).map (·.1)).Nodup->(∀ j,id<=j->c.R j=none) ->
  ∃ G' lk',(∀ i,lk' i=iD (bg id vs) lk i)/\bc c G' sl n lk' a w/\Ext G lk G' lk'/\aJ (TR c G' lk' w) (Hm id vs) xs/\∀ fq,Fr c G lk w fq->(∀ b∈fq,b∉fp)->Fr c G' lk' w fq
 | [],[],fp,id,G,lk,h,_,_,_,_,_,_=>⟨G,lk,λ _=>rfl,h,Ext.refl _ _,trivial,λ fq hq _=>hq⟩
 | v::vs,x::xs,fp,id,G,lk,h,hO,dq,hF,aN,rL,hR=>by
  obtain⟨f1,f2,rfl,h1,h2⟩:=hO
  rw[a1X] at dq
  obtain⟨Sx,Sy,Q3⟩:=dq
  simp only[bg,a3s] at rL
  rw[a1X] at rL
  obtain⟨d1,d2,d3⟩:=rL
  obtain⟨G1,yL,l1,i1,e1,c1,RY⟩:=h.Ku (id:=id) h1 Sx (λ b hb=>hF b (by simp[hb])) (λ p hp=>aN p (by simp[bg,hp])) d1 hR
  have fP:∀ p∈bg (id+20) vs,ae (bS id v.cells) p.1=none:=λ p hp=>Ma λ q hq e=>d3 q.1 (a1D.2 ⟨q,hq,rfl⟩) p.1 (a1D.2 ⟨p,hp,rfl⟩) e
  obtain⟨G2,lk2,k1,k2,k3,k4,k5⟩:=bc.FJ (vs:=vs) (xs:=xs) (fp:=f2) (id:=id+20) i1 h2 Sy
   (RY f2 (λ b hb=>hF b (by simp[hb])) (λ b hb cm=>Q3 b cm b hb rfl)) (λ p hp=>by rw[l1 p.1];unfold iD;rw[fP p hp];exact aN p (by simp[bg,hp])) d2 (λ j hj=>hR j (by omega))
  refine⟨G2,lk2,λ i=>?_,k2,e1.trans k3,⟨c1.ext k3,k4⟩,λ fq hq wk=>k5 fq (RY fq hq λ b hb cm=>wk b hb (by simp[cm])) λ b hb cm=>wk b hb (by simp[cm])⟩
  rw[k1 i,show yL=iD (bS id v.cells) lk from funext l1]
  exact Ud fP lk i
 | [],_::_,_,_,_,_,_,hO,_,_,_,_,_=>hO.elim
 | _::_,[],_,_,_,_,_,hO,_,_,_,_,_=>hO.elim
theorem qq(r r':List (Nat×au))(i:Nat):ae (r++r') i=iD r (ae r') i:=by
 unfold iD
 induction r with
 | nil=>rfl
 | cons p r ih =>
  obtain⟨k,o⟩:=p
  rw[a2I,dM,dM]
  by_cases hj:i=k
  .simp[hj]
  .simpa [hj] using ih
theorem Fl{id:Nat}{res:List TV}{x:Value}{fp:List Nat}(h:El w res x fp):∃ xs,FG w res xs fp/\∀ (G:Gh) (lk:Nat->Option au),aJ (TR c G lk w) (Hm id res) xs->VR c G lk w (me id res) x:=by
 match res,h with
 | [v],h=>exact⟨[x],⟨fp,[],by simp,h,rfl⟩,λ G lk ha=>ha.1.iA⟩
 | [],h =>
  obtain⟨l,h1,h2⟩:=h
  exact⟨l,h2,λ G lk ha=>⟨l,h1,ha⟩⟩
 | v::u::r,h =>
  obtain⟨l,h1,h2⟩:=h
  exact⟨l,h2,λ G lk ha=>⟨l,h1,ha⟩⟩
end
section
variable {c:Ctx} {G:Gh} {s:ag} {a:Act} {w w':World}
theorem cY:∀ {l:List Nat},nodupB l=true->l.Nodup
 | [],_=>a2L
 | a::r,h=>by
  simp only[nodupB] at h
  split at h
  .cases h
  .rename_i hc
   exact List.nodup_cons.2 ⟨by simpa using hc,cY h⟩
theorem MA(hE:bD c.P c.E)(h:Inv c G s a w){o:Oper}{f:FuncId}{Ts:List TypeId}{vs:List AV}{xs:List Value}{Z9:List Arg}{pre:Vc}{res:List TV}{d b:Nat}{Q:Exit->Act->World->Prop}
  (has:nX c.E s.ae Ts vs=some Z9) (oX:aJ (VR c G s.ae w) vs xs) (hc:c.E.Hb f Z9=some (pre,res)) (kv:pre.ok) (hd:o.dst=some d)
  (tC:∀ p∈bg b res,s.ae p.1=none) (rL:((bg b res).map (·.1)).Nodup) (hR:100<=b)
  (cH:lF c.P f->(execOp a.eval o).run c.P w = .ok (.enter f xs.toArray) w) :
  o.wp c.P a w (λ a' w'=>∃ G',Inv c G' { ar:=s.ar.set d (me b res),aC:=bg b res++s.aC } a' w') Q:=by
 obtain⟨oU,kl⟩:=hE.Hb f Z9 pre res hc kv
 unfold Oper.wp
 rw[cH oU]
 simp only[Oper.upon]
 refine (kl w (SX G s.ae) xs [] ?_ (.Mt (jI hE h (λ _ _ h=>h) (λ _ h => .inl h) (λ τ v x y h1 h2=>yZ h.aI h.aC (λ _ _ h=>h) h1 h2) has oX)) (.inl rfl) a2L (by simp)).mono ?_
 .exact h.Tw
 .rintro e w' ⟨x,fp,rfl,hk,hO,dq,qW⟩
  have hk:cP (λ _=>False) w w':=⟨hk.os,hk.tape,hk.output,hk.size,λ b hb _=>hk.block b hb (by simp)⟩
  have qW:∀ b∈fp,w.heap.size<=b/\b<w'.heap.size:=λ b hb=>(qW b hb).resolve_left (by simp)
  have hI:=bc.grow h hk (S':=G.S) (λ _ _=>a3G) (λ b hb=>a2c (h.ed b hb) hk.size)
  obtain⟨ys,qM,J3⟩:=Fl (c:=c) (id:=b) hO
  have hF:Fr c ⟨G.S,G.η,G.φ⟩ s.ae w' fp:=λ b hb=>by
   obtain⟨h1,h2⟩:=qW b hb
   have:=h.aQ.size
   refine⟨.inl (by omega),λ hs=>?_,h2,λ i o' hi qT=>?_,λ j τ zs hj oT=>?_⟩
   .have:=h.ed b hs;omega
   .have:=(h.place i o' b hi qT).2.2;omega
   .have:=(h.aI.pl j τ zs b hj oT).2.2.1;omega
  obtain⟨G',lk',k1,k2,k3,k4,_⟩:=hI.FJ (id:=b) qM dq hF tC rL (λ j hj=>by
   cases hr:c.R j with
   | none=>rfl
   | some v=>have:=h.kd j v hr;omega)
  refine⟨G',?_⟩
  have cu:ag.ae { ar:=s.ar.set d (me b res),aC:=bg b res++s.aC }=lk':=by
   funext i
   rw[k1 i]
   exact qq _ _ i
  unfold Inv
  rw[cu,hd,show ag.sl { ar:=s.ar.set d (me b res),aC:=bg b res++s.aC }=lN s.ar.length s.sl (some d) (me b res) from rD s.ar d _ _,
   show ({ ar:=s.ar.set d (me b res),aC:=bg b res++s.aC }:ag).ar.length=s.ar.length from by simp]
  exact bc.put k2 (J3 G' lk' k4)
end
end Go.Proofs.YtaaamahdcpcofaaDoor

namespace Go.Proofs.YtaaamahdcpcofaaDoor
theorem fS{α:Type}:∀ {l:List (Nat×α)} {id:Nat} {o:α},ae l id=some o->(id,o)∈l
 | (k,p)::r,id,o,h=>by
  simp only[ae] at h
  split at h
  .rename_i hk
   have hk:=a1x hk
   simp only[a1w] at h
   subst hk h
   simp
  .exact a3m _ (fS h)
theorem uk{α:Type}:∀ {l:List (Nat×α)} {id:Nat} {o:α},(l.map (·.1)).Nodup->(id,o)∈l->ae l id=some o
 | (k,p)::r,id,o,hd,h=>by
  simp only[a2p,a2o] at hd
  simp only[ae]
  rcases a1N.1 h with e|h
  .simp only[a1y] at e
   obtain⟨rfl,rfl⟩:=e
   simp
  .split
   .rename_i hk
    have hk:=a1x hk
    subst hk
    exact absurd (a1D.2 ⟨_,h,rfl⟩) hd.1
   .exact uk hd.2 h
section
variable {c:Ctx} {G:Gh} {sl:Nat->AV} {n:Nat} {lk:Nat->Option au} {a:Act} {w w':World}
abbrev TE:=Value×List Nat×au
def Cw(A:List (Nat×TE))(G:Gh)(i:Nat):Value:=match ae A i with
 | some e=>e.1
 | none=>G.η i
def wT(A:List (Nat×TE))(G:Gh)(i:Nat):List Nat:=match ae A i with
 | some e=>e.2.1
 | none=>G.φ i
def Kj(A:List (Nat×TE))(lk:Nat->Option au)(i:Nat):Option au:=match ae A i with
 | some e=>some e.2.2
 | none=>lk i
structure P7(G:Gh)(lk:Nat->Option au)(w':World)(id:Nat)(e:TE):Prop where
 ex:∃ τ xs cT v l l',lk id=some (.aq τ xs)/\e.2.2 = .aq τ cT/\G.η id = .tuple (v::l).toArray/\e.1 = .tuple (v::l').toArray/\jH w' e.1 τ cT e.2.1/\e.2.1.Nodup
theorem DI.ofList{A:List (Nat×TE)}(hA:∀ p∈A,P7 G lk w' p.1 p.2)(Sb:∀ p∈A,∀ b∈p.2.2.1,(∃ q∈A,b∈G.φ q.1)\/tX c G lk w' b)(O8:∀ p∈A,∀ q∈A,∀ b∈p.2.2.1,b∈q.2.2.1->p.1=q.1)(dq:(A.map (·.1)).Nodup)
  (Y4:∀ b,b<w.heap.size->(∀ p∈A,b∉G.φ p.1)->w'.heap[b]?=w.heap[b]?) (Zj:w'.os=w.os) (Sj:w'.tape=w.tape) (N4:w'.output=w.output) (Im:w.heap.size<=w'.heap.size) :
  DI c G lk (Kj A lk) w w' (Cw A G) (wT A G) (λ i=>∃ e,ae A i=some e) where
 same id hi:=by
  have:ae A id=none:=by
   cases hx:ae A id with
   | none=>rfl
   | some e=>exact absurd ⟨e,hx⟩ hi
  simp[Kj,Cw,wT,this]
 aq id:=by
  rintro⟨e,he⟩
  obtain⟨τ,xs,cT,v,l,l',h1,h2,h3,h4,h5,h6⟩:=(hA _ (fS he)).ex
  refine⟨τ,xs,cT,v,l,l',h1,?_,h3,?_,?_,?_⟩
  .simp only[Kj,he];rw[<-h2]
  .simp only[Cw,he];exact h4
  .simp only[Cw,wT,he];exact h5
  .simp only[wT,he];exact h6
 X3 id b:=by
  rintro⟨e,he⟩ hb
  simp only[wT,he] at hb
  rcases Sb _ (fS he) b hb with ⟨q,hq,hbq⟩|Pg
  .exact .inl ⟨q.1,⟨q.2,uk dq hq⟩,hbq⟩
  .exact .inr Pg
 apart id dH b:=by
  rintro⟨e,he⟩ ⟨e',yn⟩ hb cm
  simp only[wT,he] at hb
  simp only[wT,yn] at cm
  exact O8 _ (fS he) _ (fS yn) b hb cm
 heap b hb hn:=Y4 b hb λ p hp=>hn p.1 ⟨p.2,uk dq hp⟩
 os:=Zj
 tape:=Sj
 output:=N4
 size:=Im
def tY(G:Gh)(lk:Nat->Option au)(ids:List Nat)(b:Nat):Prop :=
 ∃ id∈ids,(∃ τ xs,lk id=some (.aq τ xs)/\b∈G.φ id)\/∃ e τ xs,lk id=some (.row e τ xs)/\fe (G.η id)=some b
theorem tY.mono{ids BT:List Nat}{b:Nat}(h:tY G lk ids b)(hs:∀ i∈ids,i∈BT):tY G lk BT b:=by
 obtain⟨id,hi,h⟩:=h
 exact⟨id,hs id hi,h⟩
theorem bc.kp(h:bc c G sl n lk a w){i j:List Nat}{b:Nat}(hi:tY G lk i b)(hj:tY G lk j b)(hd:∀ x∈i,∀ y∈j,x≠y):False:=by
 obtain⟨x,hx,h1⟩:=hi
 obtain⟨y,hy,h2⟩:=hj
 rcases h1 with ⟨τ,xs,k1,k2⟩|⟨e,τ,xs,k1,k2⟩<;>rcases h2 with ⟨aV,cT,m1,m2⟩|⟨e',aV,cT,m1,m2⟩
 .exact hd x hx y hy (h.aI.ap x y τ aV xs cT b k1 m1 k2 m2)
 .exact (h.aI.pl x τ xs b k1 k2).2.2.2 y _ m1 m2
 .exact (h.aI.pl y aV cT b m1 m2).2.2.2 x _ k1 k2
 .exact hd x hx y hy (h.apart x y _ _ b k1 m1 k2 m2)
theorem tm{τ:Ty}(h:τ.wR=true)(y:τ.den):(τ.aT y).light=true:=by
 cases τ<;>first|rfl|cases h
theorem L8:∀ {l:List D},(∀ d∈l,d.light=true)->D.CO l=true
 | [],_=>rfl
 | d::ds,h=>by
  simp only[D.CO,a1z]
  exact⟨h d (by simp),L8 λ e he=>h e (a3m _ he)⟩
theorem PH{τ:Ty}(h:τ.plain=true)(y:τ.den):(τ.aT y).light=true:=by
 cases τ with
 | st s =>
  show (s.aT y).light=true
  rw[aM.cq]
  refine L8 λ d hd=>?_
  obtain⟨u,hu,rfl⟩:=a1D.1 hd
  have ht:u.τ∈s.uF:=by rw[<-aM.rT s y];exact a1D.2 ⟨u,hu,rfl⟩
  exact tm (a2e.1 h _ ht) u.x
 | slice t=>cases h
 | mv t=>cases h
 | ptr=>rfl
 | int k=>rfl
 | bool=>rfl
 | str=>rfl
theorem wS(h:bc c G sl n lk a w){τ:Ty}{v:AV}{x:Value}{y:τ.den}{ids:List Nat}(ht:eK lk τ v=some (y,ids))(hv:C1 c G lk w v x):∃ fp,Ow w (τ.aT y) [x] fp/\fp.Nodup/\∀ b∈fp,tY G lk ids b:=by
 cases v with
 | az u =>
  simp only[eK] at ht
  split at ht
  .rename_i y' hs hy
   simp only[a1w,a1y] at ht
   obtain⟨rfl,rfl⟩:=ht
   have e:=TV.aX hy
   subst e
   exact⟨[],Ow.gf _ (tm hs _) hv.2,a2L,by simp⟩
  .cases ht
 | nil =>
  cases τ with
  | slice t =>
   simp only[eK,a1w,a1y] at ht
   obtain⟨rfl,rfl⟩:=ht
   exact⟨[],⟨none,0,by rw[show x=_ from hv];rfl,by simp,by simp[maxLen],by simp, .inl ⟨rfl,⟨rfl,rfl⟩,rfl⟩⟩,a2L,by simp⟩
  | _=>cases ht
 | aq id =>
  simp only[eK] at ht
  split at ht
  .rename_i aV xs hl
   split at ht
   .rename_i y' hy
    simp only[a1w,a1y] at ht
    obtain⟨rfl,rfl⟩:=ht
    have e:=TV.aX hy
    cases e
    obtain⟨_,l,h2,_⟩:=hv
    exact⟨G.φ id,Ow.Ws (h.aI.tr id aV xs hl) h2,h.aI.nd id aV xs hl,λ b hb=>⟨id,by simp, .inl ⟨aV,xs,hl,hb⟩⟩⟩
   .cases ht
  .cases ht
 | row id =>
  simp only[eK] at ht
  split at ht
  .rename_i e aV xs hl
   split at ht
   .rename_i y' hp hy
    simp only[a1w,a1y] at ht
    obtain⟨rfl,rfl⟩:=ht
    have e1:=TV.aX hy
    cases e1
    obtain⟨hx,_,_⟩:=hv
    obtain⟨l,h1,h2,h3⟩:=h.aC id _ hl
    have Xi:∀ d∈xs.map aV.aT,d.light=true:=λ d hd=>by
     obtain⟨z,_,rfl⟩:=a1D.1 hd
     exact PH hp z
    rcases h1.2 with ⟨E3,hn⟩|⟨g,cap,cur,E3,_,hh,JZ,R8,lU,V0⟩
    .have oX:xs=[]:=a2D hn
     subst oX
     exact⟨[],⟨none,0,by rw[hx,E3];rfl,by simp,by simp[maxLen],by simp, .inl ⟨rfl,⟨rfl,rfl⟩,rfl⟩⟩,a2L,by simp⟩
    .refine⟨[g],⟨some ⟨g,0,none⟩,cap,by rw[hx,E3];simp,by simpa using JZ,R8,by simpa using h3, .inr ⟨g,[],cur.toList,e,rfl,rfl,by simpa using hh,?_⟩⟩,by simp,λ b hb=>?_⟩
     .have hr:=bV.gf (w:=w) (S:=G.S) (xs.map aV.aT) (l:=l) (m:=cur.toList.drop (xs.length * aV.size)) Xi h2
      rw[<-V0,a3c] at hr
      exact⟨by rw[a2y];exact lU,hr⟩
     .simp only[a2g] at hb
      subst hb
      exact⟨id,by simp, .inr ⟨e,aV,xs,hl,by rw[E3];rfl⟩⟩
   .cases ht
  .cases ht
 | _=>cases ht
theorem eQ{l1 l2:List Nat}(h1:l1.Nodup)(h2:l2.Nodup)(h3:∀ x∈l1,x∉l2):(l1++l2).Nodup:=by
 rw[a1X]
 exact⟨h1,h2,λ x hx y hy e=>h3 x hx (e ▸ hy)⟩
theorem Hx(h:bc c G sl n lk a w):∀ {cs:List AV} {ts:List Ty} {us:List TV} {ids:List Nat} {l:List Value},sJ lk cs ts=some (us,ids)->aJ (C1 c G lk w) cs l->ids.Nodup ->
  ∃ fp,dA w (us.map TV.aT) l fp/\fp.Nodup/\(∀ b∈fp,tY G lk ids b)/\us.map TV.τ=ts
 | [],[],us,ids,l,ht,hl,_=>by
  simp only[sJ,a1w,a1y] at ht
  obtain⟨rfl,rfl⟩:=ht
  match l,hl with
  | [],_=>exact⟨[],⟨rfl,rfl⟩,a2L,by simp,rfl⟩
 | cc::cs,t::ts,us,ids,l,ht,hl,dq=>by
  simp only[sJ] at ht
  split at ht
  .rename_i x i hx
   split at ht
   .rename_i r j hr
    simp only[a1w,a1y] at ht
    obtain⟨rfl,rfl⟩:=ht
    match l,hl with
    | v::l,hl =>
     rw[a1X] at dq
     obtain⟨n1,n2,n3⟩:=dq
     obtain⟨f1,a1,a2,a3⟩:=wS h hx hl.1
     obtain⟨f2,b1,b2,b3,b4⟩:=Hx h hr hl.2 n2
     refine⟨f1++f2,⟨v,l,f1,f2,rfl,rfl,a1,b1⟩,eQ a2 b2 λ b hb cm=>h.kp (a3 b hb) (b3 b cm) (λ x hx y hy=>n3 x hx y hy),λ b hb=>?_,by simp[b4]⟩
     rcases a1A.1 hb with hb|hb
     .exact (a3 b hb).mono λ k hk=>by simp[hk]
     .exact (b3 b hb).mono λ k hk=>by simp[hk]
   .cases ht
  .cases ht
 | [],_::_,_,_,_,ht,_,_=>by cases ht
 | _::_,[],_,_,_,ht,_,_=>by cases ht
theorem nV(h:bc c G sl n lk a w){τ:Ty}{v:AV}{x:Value}{y:τ.den}{ids:List Nat}(ht:rF lk τ v=some (y,ids))(hv:VR c G lk w v x)(dq:ids.Nodup):∃ fp,xQ w ⟨τ,y⟩ x fp/\fp.Nodup/\∀ b∈fp,tY G lk ids b:=by
 have one:(∀ cs,v ≠ .agg cs)->eK lk τ v=some (y,ids)->∃ fp,xQ w ⟨τ,y⟩ x fp/\fp.Nodup/\∀ b∈fp,tY G lk ids b:=by
  intro hna ht
  have cy:∀ s,τ ≠ .st s:=λ s e=>by
   subst e
   cases v with
   | az u=>simp[eK,Ty.wR] at ht
   | nil=>simp[eK] at ht
   | aq id =>
    simp only[eK] at ht
    split at ht
    .split at ht
     .rename_i hy
      have e:=TV.aX hy
      cases e
     .cases ht
    .cases ht
   | row id =>
    simp only[eK] at ht
    split at ht
    .split at ht
     .rename_i hy
      have e:=TV.aX hy
      cases e
     .cases ht
    .cases ht
   | _=>cases ht
  have hc:C1 c G lk w v x:=by
   refine hv.OB ?_
   cases v with
   | az u =>
    simp only[eK] at ht
    split at ht
    .rename_i hy
     have e:=TV.aX hy
     subst e
     cases τ<;>first|rfl|exact absurd rfl (cy _)
    .cases ht
   | nil=>rfl
   | aq id=>rfl
   | row id=>rfl
   | _=>cases ht
  obtain⟨fp,h1,h2,h3⟩:=wS h ht hc
  refine⟨fp,?_,h2,h3⟩
  cases τ with
  | st s=>exact absurd rfl (cy s)
  | _=>exact h1
 cases v with
 | agg cs =>
  cases τ with
  | st s =>
   simp only[rF] at ht
   split at ht
   .rename_i us i lU
    split at ht
    .rename_i y' hy
     simp only[a1w,a1y] at ht
     obtain⟨rfl,rfl⟩:=ht
     obtain⟨l,rfl,hl⟩:=hv
     obtain⟨fp,h1,h2,h3,_⟩:=Hx h lU hl dq
     refine⟨fp,⟨l,rfl,?_⟩,h2,h3⟩
     rw[aM.cq,aM.pj hy]
     exact h1
    .cases ht
   .cases ht
  | _=>cases ht
 | _=>exact one (by intro cs;simp) ht
theorem dA.split:∀ (ds:List D) {l:List Value} {fp:List Nat} (i:Nat) (d:D),dA w ds l fp->ds[i]?=some d ->
  ∃ v f0 f1 f2,fp=f0++f1++f2/\l[i]?=some v/\Ow w d [v] f1/\∀ (w':World) (d':D) (v':Value) (jN:List Nat),(∀ b∈f0++f2,w'.heap[b]?=w.heap[b]?)->Ow w' d' [v'] jN->dA w' (ds.set i d') (l.set i v') (f0++jN++f2)
 | [],_,_,_,_,_,hi=>by simp at hi
 | e::ds,_,_,0,d,h,hi=>by
  obtain⟨v,r,f1,f2,rfl,rfl,h3,h4⟩:=h
  simp at hi
  subst hi
  exact⟨v,[],f1,f2,by simp,rfl,h3,λ w' d' v' jN hw hd=>⟨v',r,jN,f2,rfl,by simp,hd,dA.aQ ds h4 λ b hb=>hw b (by simp[hb])⟩⟩
 | e::ds,_,_,i+1,d,h,hi=>by
  obtain⟨v,r,g1,g2,rfl,rfl,h3,h4⟩:=h
  obtain⟨u,f0,f1,f2,rfl,k1,k2,k3⟩:=dA.split ds i d h4 (by simpa using hi)
  refine⟨u,g1++f0,f1,f2,by simp,by simpa using k1,k2,λ w' d' v' jN hw hd=>?_⟩
  exact⟨v,r.set i v',g1,f0++jN++f2,rfl,by simp,Ow.aQ e h3 λ b hb=>hw b (by simp[hb]),k3 w' d' v' jN (λ b hb=>hw b (by simp at hb ⊢;rcases hb with hb|hb<;>simp[hb])) hd⟩
theorem Jw(v:AV):v.dm=v\/v.dm = .any:=by unfold AV.dm;split<;>simp
theorem D0(v:AV):v.dm.Hw=false:=by
 unfold AV.dm
 split
 .rfl
 .assumption
theorem JK:∀ cs:List AV,AV.pT (cs.map AV.dm)=false
 | []=>rfl
 | v::r=>by simp only[a2p,AV.pT,D0];exact JK r
theorem C1.dm{v:AV}{x:Value}(h:C1 c G lk w v x):C1 c G lk w v.dm x:=by
 rcases Jw v with e|e
 .rw[e];exact h
 .rw[e];trivial
theorem Eg(o:Option au):ft o (o.map au.dm):=by
 refine⟨λ h=>?_,λ e τ xs h=>⟨e,xs,by rw[h];rfl,a2u _⟩,λ h=>?_,λ h=>?_⟩
 .match o,h with
  | some (.box cs),_=>rfl
 .match o,h with
  | some (.aq τ xs),_=>rfl
 .match o,h with
  | some (.map m),_=>rfl
theorem wK{o:Option au}{τ:Ty}{xs:List τ.den}(h:o.map au.dm=some (.aq τ xs)):o=some (.aq τ xs):=by
 match o,h with
 | some (.aq aV cT),h=>exact h
 | some (.box _),h=>cases h
 | some (.row ..),h=>cases h
theorem bc.bQ(h:bc c G sl n lk a w):bc c G (λ i=>(sl i).dm) n (λ i=>(lk i).map au.dm) a w:=by
 have h1:bc c G (λ i=>(sl i).dm) n lk a w:=h.forget λ i=>Jw (sl i)
 exact {
  defers:=h1.defers,size:=h1.size,aQ:=h1.aQ,lE:=h1.lE,fc:=h1.fc,sX:=h1.sX,ed:=h1.ed
  ar:=λ i=>(h1.ar i).mono (λ j _=>⟨Eg _,rfl⟩) (λ _ h=>h) (λ _ _=>rfl)
  aC:=λ i o ho=>by
   rw[a2r] at ho
   obtain⟨o',cF,rfl⟩:=ho
   have hk:OR c G lk w i o'.dm:=by
    have:=h1.aC i o' cF
    cases o' with
    | box cs =>
     obtain⟨b,l,t,k1,k2,k3⟩:=this
     exact⟨b,l,t,k1,k2,aJ.fG _ (k3.imp λ u y _ hy=>hy.dm)⟩
    | row e τ xs=>exact this
    | aq τ xs=>exact this
    | map m=>exact this
   exact hk.mono rfl (λ _ _=>rfl) (λ j _=>⟨Eg _,rfl⟩) (λ _ h=>h) (λ _ _=>rfl)
  place:=λ i o b ho hb=>by
   rw[a2r] at ho
   obtain⟨o',cF,rfl⟩:=ho
   exact h1.place i o' b cF hb
  apart:=λ i j o o' b ho cF hb cm=>by
   rw[a2r] at ho cF
   obtain⟨p,hp,rfl⟩:=ho
   obtain⟨q,hq,rfl⟩:=cF
   exact h1.apart i j p q b hp hq hb cm
  aI:=h1.aI.sub (λ i τ xs k=>wK k) (λ i o k=>by
   rw[a2r] at k
   obtain⟨p,hp,_⟩:=k
   exact⟨p,hp⟩)
  root:=λ i v hr ht=>h1.root i v hr (by
   match hl:lk i,ht with
   | some (.aq ..),_=>rfl
   | some (.box _),ht=>simp[hl,au.dm,cp] at ht
   | some (.row ..),ht=>simp[hl,au.dm,cp] at ht
   | none,ht=>simp[hl,cp] at ht)
  kd:=h1.kd
  dE:=λ i v hr ht=>h1.dE i v hr (by
   match hl:lk i,ht with
   | some (.box _),_=>rfl
   | some (.aq ..),ht=>simp[hl,au.dm,im] at ht
   | some (.row ..),ht=>simp[hl,au.dm,im] at ht
   | none,ht=>simp[hl,im] at ht)
  fW:=h1.fW }
end
section
variable {c:Ctx} {G:Gh} {s:ag} {a:Act} {w w':World}
theorem MP(s:ag):s.bQ.sl=λ i=>(s.sl i).dm:=by
 funext i
 simp only[ag.sl,ag.bQ,a2j,a3d]
 cases s.ar[i]?<;>rfl
theorem lZ(s:ag):s.bQ.ae=λ i=>(s.ae i).map au.dm:=by
 funext i;exact CP _ _ _
theorem Inv.bQ(h:Inv c G s a w):Inv c G s.bQ a w/\(∀ i,(s.bQ.sl i).Hw=false)/\∀ id cs,s.bQ.ae id=some (.box cs)->AV.pT cs=false:=by
 refine⟨?_,λ i=>by rw[MP];exact D0 _,λ id cs aN=>?_⟩
 .unfold Inv
  rw[MP,lZ,show s.bQ.ar.length=s.ar.length from by simp[ag.bQ]]
  exact bc.bQ h
 .rw[lZ] at aN
  simp only[a2r] at aN
  obtain⟨o,_,ho⟩:=aN
  cases o with
  | box dV=>cases ho;exact JK dV
  | row e τ xs=>cases ho
  | aq τ xs=>cases ho
  | map m=>cases ho
theorem Inv.KL(h:Inv c G s a w){A:List (Nat×TE)}(hA:∀ p∈A,P7 G s.ae w' p.1 p.2)(Sb:∀ p∈A,∀ b∈p.2.2.1,(∃ q∈A,b∈G.φ q.1)\/tX c G s.ae w' b)(O8:∀ p∈A,∀ q∈A,∀ b∈p.2.2.1,b∈q.2.2.1->p.1=q.1)(dq:(A.map (·.1)).Nodup)
  {F:Nat->Prop} (hk:cP F w w') (hF:∀ b,F b->∃ p∈A,b∈G.φ p.1) {t:ag} (Xp:t.ar=s.bQ.ar) (AW:∀ i,t.ae i=Kj A s.bQ.ae i) {d:Option Nat} {v:AV} {x:Value} (hv:∀ G' lk,VR c G' lk w' v x) :
  ∃ G',Inv c G' (t.put d v) (a.put d x) w':=by
 obtain⟨h1,h2,h3⟩:=h.bQ
 have Vr:∀ p∈A,P7 G s.bQ.ae w' p.1 p.2:=λ p hp=>by
  obtain⟨τ,xs,cT,v,l,l',k1,k2⟩:=(hA p hp).ex
  exact⟨τ,xs,cT,v,l,l',by rw[lZ];simp[k1,au.dm],k2⟩
 have Xd:∀ p∈A,∀ b∈p.2.2.1,(∃ q∈A,b∈G.φ q.1)\/tX c G s.bQ.ae w' b:=λ p hp b hb=>(Sb p hp b hb).imp id λ ⟨q1,q2,q3,q4,q5⟩ =>
  ⟨q1,q2,q3,λ i o hi=>by
   rw[lZ] at hi
   simp only[a2r] at hi
   obtain⟨o',cF,_⟩:=hi
   exact q4 i o' cF,λ j τ xs hj=>q5 j τ xs (by rw[lZ] at hj;exact wK hj)⟩
 have T:=DI.ofList (c:=c) (w:=w) Vr Xd O8 dq (λ b hb hn=>hk.block b hb λ hf=>by
  obtain⟨p,hp,hbp⟩:=hF b hf
  exact hn p hp hbp) hk.os hk.tape hk.output hk.size
 have hI:=bc.gi h1 T h2 h3
 refine⟨_,Inv.put (G:=⟨G.S,Cw A G,wT A G⟩) ?_ (hv _ _)⟩
 unfold Inv
 rw[show t.sl=s.bQ.sl from by funext i;simp only[ag.sl,Xp],show t.ae=Kj A s.bQ.ae from funext AW,Xp]
 exact hI
theorem Hy(id:Nat)(e:TE)(lk:Nat->Option au)(i:Nat):Kj [(id,e)] lk i=if i=id then some e.2.2 else lk i:=by
 unfold Kj
 simp only[ae]
 by_cases hi:i=id
 .subst hi;simp
 .have:Nat.beq id i=false:=by
   cases hb:Nat.beq id i with
   | false=>rfl
   | true=>exact absurd (a1x hb).symm hi
  simp[this,hi]
theorem gL(s:ag)(id:Nat)(τ:Ty)(xs:List τ.den)(i:Nat):(s.dT id τ xs).ae i=if i=id then some (.aq τ xs) else s.ae i:=by
 show ae ((id,_)::bK id s.aC) i=_
 rw[dM,fj]
 by_cases hi:i=id
 .simp[hi]
 .simp[hi];rfl
theorem Ho{lk:Nat->Option au}{k:Int}(h:ah k):VR c G lk w (.az ⟨.int .i64,k⟩) (.int .i64 k):=by
 refine⟨rfl,?_⟩
 simp only[IntKind.min,IntKind.max,IntKind.signed,IntKind.bits,a3z]
 obtain⟨q1,q2⟩:=h
 constructor<;>omega
theorem Lv(h:Inv c G s a w){b:Nat}(h1:w.heap.size<=b)(h2:b<w'.heap.size):tX c G s.ae w' b:=by
 have:=h.aQ.size
 refine⟨.inl (by omega),λ hs=>by have:=h.ed b hs;omega,h2,λ i o hi qT=>by have:=(h.place i o b hi qT).2.2;omega,λ j τ xs hj oT=>by have:=(h.aI.pl j τ xs b hj oT).2.2.1;omega⟩
theorem J8(hE:bD c.P c.E)(h:Inv c G s a w){o:Oper}{f:FuncId}{τ:Ty}{g:(Ty.slice τ).den->Int->Vc×(Ty.slice τ).den×Int}(hm:c.E.mark f=some ⟨.slice τ,g⟩){id:Nat}{xs:List τ.den}(aN:s.ae id=some (.aq τ xs)){k:Int}{v z:Value}{d:Nat}
  (hv:VR c G s.ae w (.aq id) v) (hz:VR c G s.ae w (.az ⟨.int .i64,k⟩) z) (kv:(g xs k).1.ok) (hd:o.dst=some d) (cH:lF c.P f->(execOp a.eval o).run c.P w = .ok (.enter f [v,z].toArray) w) {Q:Exit->Act->World->Prop} :
  o.wp c.P a w (λ a' w'=>∃ G',Inv c G' ((s.bQ.dT id τ (g xs k).2.1).put (some d) (.az ⟨.int .i64,(g xs k).2.2⟩)) a' w') Q:=by
 obtain⟨oU,kl⟩:=hE.mark f _ hm
 obtain⟨Xr,Zu,hz3⟩:=hz
 simp only[a1C,a1H] at Xr
 subst Xr
 obtain⟨_,l,fB,Dw⟩:=hv
 have hO:=Ow.Ws (h.aI.tr id τ xs aN) fB
 have QH:ah k:=by
  simp only[IntKind.min,IntKind.max,IntKind.signed,IntKind.bits,a3z] at Zu hz3
  constructor<;>omega
 unfold Oper.wp
 rw[cH oU]
 simp only[Oper.upon]
 refine (kl xs k w v (G.φ id) kv QH (h.Vp λ b hb=>(h.aI.pl id τ xs b aN hb).2.1) hO (h.aI.nd id τ xs aN) λ b hb=>(h.aI.pl id τ xs b aN hb).2.2.1).mono ?_
 rintro e w' ⟨rfl,gQ,hk,uf,qM,Jt,sZ⟩
 obtain⟨l',hT,_⟩:=jH.Py (τ:=τ) qM
 rw[hd]
 show ∃ G',Inv c G' ((s.bQ.dT id τ (g xs k).2.1).put (some d) (.az ⟨.int .i64,(g xs k).2.2⟩)) (a.put (some d) (.int .i64 (g xs k).2.2)) w'
 refine h.KL (w':=w') (t:=s.bQ.dT id τ (g xs k).2.1) (A:=[(id,(.tuple (v::l').toArray,uf, .aq τ (g xs k).2.1))]) ?_ ?_ ?_ (by simp) hk (λ b hb=>⟨_,a2g.2 rfl,hb⟩) rfl (λ i=>?_) (λ G' lk=>Ho gQ)
 .intro p hp
  simp only[a2g] at hp
  subst hp
  exact⟨τ,xs,_,v,l,l',aN,rfl,fB,rfl,hT,Jt⟩
 .intro p hp b hb
  simp only[a2g] at hp
  subst hp
  rcases sZ b hb with q|q
  .exact .inl ⟨_,a2g.2 rfl,q⟩
  .exact .inr (Lv h q.1 q.2)
 .intro p hp q hq b _ _
  simp only[a2g] at hp hq
  rw[hp,hq]
 .rw[Hy,gL]
theorem wN{f0 f1 f2 jN:List Nat}(h:(f0++f1++f2).Nodup)(h1:jN.Nodup)(hs:∀ b∈jN,b∈f1\/(b∉f0/\b∉f2)):(f0++jN++f2).Nodup:=by
 rw[a1X,a1X] at h
 obtain⟨⟨a1,a2,a3⟩,a4,a5⟩:=h
 refine eQ (eQ a1 h1 λ x hx yq=>(hs x yq).elim (λ q=>a3 x hx x q rfl) λ q=>q.1 hx) a4 λ x hx yq=>?_
 rcases a1A.1 hx with hx|hx
 .exact a5 x (by simp[hx]) x yq rfl
 .exact (hs x hx).elim (λ q=>a5 x (by simp[q]) x yq rfl) λ q=>q.2 yq
theorem JF{w:World}{τ DG:Ty}{x:τ.den}{off:Nat}{u:TV}(hu:TV.part ⟨τ,x⟩ off DG=some u)(cy:DG.agg=false){ce:List Value}{fp:List Nat}(hO:Ow w (τ.aT x) ce fp) :
  ∃ v f0 f1 f2,fp=f0++f1++f2/\ce[off]?=some v/\Ow w u.aT [v] f1/\∀ (w':World) (u':TV) (y:τ.den) (v':Value) (jN:List Nat),mA τ x off u'=some y->(∀ b∈f0++f2,w'.heap[b]?=w.heap[b]?)->Ow w' u'.aT [v'] jN->Ow w' (τ.aT y) (ce.set off v') (f0++jN++f2):=by
 cases τ with
 | st s =>
  have tA:(s.cells x)[off]?=some u:=by
   unfold TV.part at hu
   split at hu
   .rename_i hb
    simp only[a1z] at hb
    have:=a2d hb.2
    have e:Ty.st s=DG:=this
    subst e
    cases cy
   .split at hu
    .rename_i z hz
     split at hu
     .simp only[a1w] at hu
      subst hu
      exact hz
     .cases hu
    .cases hu
  rw[show Ty.aT (.st s) x=s.aT x from rfl,aM.cq] at hO
  obtain⟨v,f0,f1,f2,h1,h2,h3,h4⟩:=dA.split _ off u.aT hO (by rw[a3d,tA];rfl)
  refine⟨v,f0,f1,f2,h1,h2,h3,λ w' u' y v' jN hp hw qM=>?_⟩
  simp only[mA,tA] at hp
  split at hp
  .have hy:=aM.pj hp
   rw[show Ty.aT (.st s) y=s.aT y from rfl,aM.cq,hy,a4v]
   exact h4 w' u'.aT v' jN hw qM
  .cases hp
 | slice t =>
  have o8:off=0/\u=⟨.slice t,x⟩:=by
   unfold TV.part at hu
   split at hu
   .rename_i hb
    simp only[a1z] at hb
    simp only[a1w] at hu
    exact⟨a1x hb.1,hu.symm⟩
   .split at hu
    .rename_i z hz
     cases off with
     | zero=>simp[TV.cells] at hz;subst hz;split at hu<;>simp_all
     | succ k=>simp[TV.cells] at hz
    .cases hu
  obtain⟨rfl,rfl⟩:=o8
  have hl:=Ow.length _ hO
  match ce,hl with
  | [v],_ =>
   refine⟨v,[],fp,[],by simp,rfl,hO,λ w' u' y v' jN hp _ qM=>?_⟩
   simp only[mA] at hp
   have e:=TV.aX hp
   subst e
   rw[a2K,a2O]
   exact qM
 | mv t =>
  have o8:off=0/\u=⟨.mv t,x⟩:=by
   unfold TV.part at hu
   split at hu
   .rename_i hb
    simp only[a1z] at hb
    simp only[a1w] at hu
    exact⟨a1x hb.1,hu.symm⟩
   .split at hu
    .rename_i z hz
     cases off with
     | zero=>simp[TV.cells] at hz;subst hz;split at hu<;>simp_all
     | succ k=>simp[TV.cells] at hz
    .cases hu
  obtain⟨rfl,rfl⟩:=o8
  have hl:=Ow.length _ hO
  rw[Ty.cK] at hl
  match ce,hl with
  | [v],_ =>
   refine⟨v,[],fp,[],by simp,rfl,hO,λ w' u' y v' jN hp _ qM=>?_⟩
   simp only[mA] at hp
   have e:=TV.aX hp
   subst e
   rw[a2K,a2O]
   exact qM
 | ptr =>
  have o8:off=0/\u=⟨.ptr,x⟩:=by
   unfold TV.part at hu
   split at hu
   .rename_i hb
    simp only[a1z] at hb
    simp only[a1w] at hu
    exact⟨a1x hb.1,hu.symm⟩
   .split at hu
    .rename_i z hz
     cases off with
     | zero=>simp[TV.cells] at hz;subst hz;split at hu<;>simp_all
     | succ k=>simp[TV.cells] at hz
    .cases hu
  obtain⟨rfl,rfl⟩:=o8
  have hl:=Ow.length _ hO
  rw[Ty.cK] at hl
  match ce,hl with
  | [v],_ =>
   refine⟨v,[],fp,[],by simp,rfl,hO,λ w' u' y v' jN hp _ qM=>?_⟩
   simp only[mA] at hp
   have e:=TV.aX hp
   subst e
   rw[a2K,a2O]
   exact qM
 | int k =>
  have o8:off=0/\u=⟨.int k,x⟩:=by
   unfold TV.part at hu
   split at hu
   .rename_i hb
    simp only[a1z] at hb
    simp only[a1w] at hu
    exact⟨a1x hb.1,hu.symm⟩
   .split at hu
    .rename_i z hz
     cases off with
     | zero=>simp[TV.cells] at hz;subst hz;split at hu<;>simp_all
     | succ k=>simp[TV.cells] at hz
    .cases hu
  obtain⟨rfl,rfl⟩:=o8
  have hl:=Ow.length _ hO
  match ce,hl with
  | [v],_ =>
   refine⟨v,[],fp,[],by simp,rfl,hO,λ w' u' y v' jN hp _ qM=>?_⟩
   simp only[mA] at hp
   have e:=TV.aX hp
   subst e
   rw[a2K,a2O]
   exact qM
 | bool =>
  have o8:off=0/\u=⟨.bool,x⟩:=by
   unfold TV.part at hu
   split at hu
   .rename_i hb
    simp only[a1z] at hb
    simp only[a1w] at hu
    exact⟨a1x hb.1,hu.symm⟩
   .split at hu
    .rename_i z hz
     cases off with
     | zero=>simp[TV.cells] at hz;subst hz;split at hu<;>simp_all
     | succ k=>simp[TV.cells] at hz
    .cases hu
  obtain⟨rfl,rfl⟩:=o8
  have hl:=Ow.length _ hO
  match ce,hl with
  | [v],_ =>
   refine⟨v,[],fp,[],by simp,rfl,hO,λ w' u' y v' jN hp _ qM=>?_⟩
   simp only[mA] at hp
   have e:=TV.aX hp
   subst e
   rw[a2K,a2O]
   exact qM
 | str =>
  have o8:off=0/\u=⟨.str,x⟩:=by
   unfold TV.part at hu
   split at hu
   .rename_i hb
    simp only[a1z] at hb
    simp only[a1w] at hu
    exact⟨a1x hb.1,hu.symm⟩
   .split at hu
    .rename_i z hz
     cases off with
     | zero=>simp[TV.cells] at hz;subst hz;split at hu<;>simp_all
     | succ k=>simp[TV.cells] at hz
    .cases hu
  obtain⟨rfl,rfl⟩:=o8
  have hl:=Ow.length _ hO
  match ce,hl with
  | [v],_ =>
   refine⟨v,[],fp,[],by simp,rfl,hO,λ w' u' y v' jN hp _ qM=>?_⟩
   simp only[mA] at hp
   have e:=TV.aX hp
   subst e
   rw[a2K,a2O]
   exact qM
theorem Rl(l:List Value)(o n k:Nat)(v:Value)(hk:k<n)(hl:o+n<=l.length):l.take o++((l.drop o).take n).set k v++l.drop (o+n)=l.set (o+k) v:=by
 conv=>rhs;rw[<-a3c o l]
 rw[a5j _ _ (by simp;omega),a2t]
 congr 1
 have e:o+k - (List.take o l).length=k:=by rw[a3f];omega
 rw[e]
 conv=>rhs;rw[<-a3c n (l.drop o)]
 rw[List.set_append_left _ _ (by rw[a3f,a2H];omega),a3n]
theorem MZ{w:World}{η:Value}{τ DG:Ty}{xs:List τ.den}{fp:List Nat}(hT:jH w η τ xs fp)(dq:fp.Nodup){a0:Option Addr}{n cap:Nat}{l:List Value}(fB:η = .tuple (.slice a0 n cap::l).toArray){i off:Nat}(hi:i<n){u:TV}
  (hu:TV.part ⟨τ,xs.getD i τ.zero⟩ off DG=some u) (cy:DG.agg=false) (o8:off<τ.size):n=xs.length /\
  ∃ v f1,l[i * τ.size+off]?=some v/\Ow w u.aT [v] f1/\f1.Nodup/\(∀ b∈f1,b∈fp)/\∀ (w':World) (u':TV) (y:τ.den) (v':Value) (jN:List Nat),mA τ (xs.getD i τ.zero) off u'=some y->(∀ b∈fp,b∉f1->(a0=some ⟨b,0,none⟩->∃ t,w'.heap[b]?=some (.cells (l.set (i * τ.size+off) v').toArray t (0,0)))/\(a0≠some ⟨b,0,none⟩->w'.heap[b]?=w.heap[b]?))->Ow w' u'.aT [v'] jN->jN.Nodup->(∀ b∈jN,b∈f1\/b∉fp) ->
   ∃ uf,jH w' (.tuple (.slice a0 n cap::l.set (i * τ.size+off) v').toArray) τ (xs.set i y) uf/\uf.Nodup/\∀ b∈uf,b∈fp\/b∈jN:=by
 obtain⟨v0,l0,a1,ND,h1,h2,h3,h4,h5,h6⟩:=hT
 rw[fB] at h1
 simp only[a2X] at h1
 have h1:(Value.slice a0 n cap::l)=v0::l0:=congrArg Array.toList h1
 simp only[a1C] at h1
 obtain⟨hq,BR⟩:=h1
 subst BR
 rw[h2] at hq
 simp only[a3o] at hq
 obtain⟨rfl,rfl,rfl⟩:=hq
 rcases h6 with ⟨rfl,_,_⟩|⟨b,f,t,rfl,rfl,k1,k0,k2⟩
 .simp at hi
 .have cj:∀ d∈xs.map τ.aT,d.size=τ.size:=by
   intro d hd
   obtain⟨z,_,rfl⟩:=a1D.1 hd
   exact Ty.cK τ z
  obtain⟨g0,g1,g2,rfl,hlen,m1,m2⟩:=bV.split (xs.map τ.aT) i (τ.aT (xs.getD i τ.zero)) k2 cj (by simp[List.getD,hi])
  obtain⟨v,p0,p1,p2,rfl,q1,q2,q3⟩:=JF hu cy m1
  have hvl:l[i * τ.size+off]?=some v:=by
   rw[a2Z,a1S o8,a3V] at q1
   exact q1
  rw[a2o] at dq
  obtain⟨hb,dq⟩:=dq
  have Ju:(p0++p1++p2).Nodup:=by
   rw[a1X,a1X] at dq
   exact dq.1.2.1
  have QN:p1.Nodup:=by
   rw[a1X,a1X] at Ju
   exact Ju.1.2.1
  refine⟨rfl,v,p1,hvl,q2,QN,λ b hb=>by simp[hb],λ w' u' y v' jN hp hw qM xe Zo=>?_⟩
  have dis:∀ c∈g0++(p0++p1++p2)++g2,c∉p1->w'.heap[c]?=w.heap[c]?:=λ c hc hn=>(hw c (a3m _ hc) hn).2 λ e=>by
   simp only[a1w,a3y,a1H] at e
   subst e
   exact hb hc
  have gQ:∀ c,c∈p1->c∈p0++p1++p2:=λ c hc=>by simp[hc]
  rw[a1X,a1X] at dq
  obtain⟨⟨n1,n2,n3⟩,n4,n5⟩:=dq
  have h0:∀ c∈g0++g2,c∉p1:=λ c hc Nd=>by
   rcases a1A.1 hc with hc|hc
   .exact n3 c hc c (gQ c Nd) rfl
   .exact n5 c (a1A.2 (.inr (gQ c Nd))) c hc rfl
  have h00:∀ c∈p0++p2,c∉p1:=λ c hc Nd=>by
   rw[a1X,a1X] at Ju
   rcases a1A.1 hc with hc|hc
   .exact Ju.1.2.2 c hc c Nd rfl
   .exact Ju.2.2 c (by simp[Nd]) c hc rfl
  have hy:=q3 w' u' y v' jN hp (λ c hc=>dis c (by simp at hc ⊢;rcases hc with hc|hc<;>simp[hc]) (h00 c hc)) qM
  have lJ:=m2 w' (τ.aT y) _ (p0++jN++p2) (λ c hc=>dis c (by simp at hc ⊢;rcases hc with hc|hc<;>simp[hc]) (h0 c hc)) (by simp only[a3r,a3f,a2H];omega) hy
  rw[Rl l _ _ _ v' o8 hlen,<-a4v] at lJ
  obtain⟨t',ni⟩:=(hw b (by simp) λ hc=>hb (by simp[hc])).1 rfl
  refine⟨b::(g0++(p0++jN++p2)++g2),⟨_,_,_,cap,rfl,by simp,by simpa using h3,h4,by simpa using h5, .inr ⟨b,_,t',rfl,rfl,ni,by rw[List.length_set];exact k0,lJ⟩⟩,?_,?_⟩
  .have Pg:∀ c∈jN,c∈p1\/(c∉p0/\c∉p2):=λ c hc=>(Zo c hc).imp id λ q=>⟨λ q'=>q (by simp[q']),λ q'=>q (by simp[q'])⟩
   have sZ:∀ c∈p0++jN++p2,c∈p0++p1++p2\/(c∉g0/\c∉g2):=λ c hc=>by
    simp only[a1A] at hc
    rcases hc with (hc|hc)|hc
    .exact .inl (by simp[hc])
    .rcases Zo c hc with q|q
     .exact .inl (by simp[q])
     .exact .inr ⟨λ q'=>q (by simp[q']),λ q'=>q (by simp[q'])⟩
    .exact .inl (by simp[hc])
   rw[a2o]
   refine⟨λ hc=>?_,wN (f1:=p0++p1++p2) (eQ (eQ n1 n2 λ x hx yq=>n3 x hx x yq rfl) n4 λ x hx yq=>n5 x hx x yq rfl) (wN Ju xe Pg) sZ⟩
   simp only[a1A] at hc
   rcases hc with (hc|(hc|hc)|hc)|hc
   .exact hb (by simp[hc])
   .exact hb (by simp[hc])
   .rcases Zo b hc with q|q
    .exact hb (by simp[q])
    .exact q (by simp)
   .exact hb (by simp[hc])
   .exact hb (by simp[hc])
  .intro c hc
   simp only[a1N,a1A] at hc
   rcases hc with hc|(hc|(hc|hc)|hc)|hc
   .exact .inl (by simp[hc])
   .exact .inl (by simp[hc])
   .exact .inl (by simp[hc])
   .exact .inr hc
   .exact .inl (by simp[hc])
   .exact .inl (by simp[hc])
theorem Po{lk:Nat->Option au}{k:Int}{z:Value}(hz:VR c G lk w (.az ⟨.int .i64,k⟩) z):z = .int .i64 k/\ah k:=by
 obtain⟨h1,h2,h3⟩:=hz
 simp only[a1C,a1H] at h1
 refine⟨h1,?_⟩
 simp only[IntKind.min,IntKind.max,IntKind.signed,IntKind.bits,a3z] at h2 h3
 constructor<;>omega
theorem Mf(hE:bD c.P c.E)(h:Inv c G s a w){o:Oper}{f:FuncId}{m:Aj}(hm:c.E.mark f=some m){id i off:Nat}{τ:Ty}{xs:List τ.den}(aN:s.ae id=some (.aq τ xs)){u:TV}(hu:TV.part ⟨τ,xs.getD i τ.zero⟩ off m.τ=some u){x:m.τ.den}(hx:u.Z9 m.τ=some x)
  (tR:m.τ.agg=false) (o8:off<τ.size) {k:Int} {y:τ.den} (hy:mA τ (xs.getD i τ.zero) off ⟨m.τ,(m.g x k).2.1⟩=some y) {v z:Value} {d:Nat}
  (hv:VR c G s.ae w (.sub id i off τ.size) v) (hz:VR c G s.ae w (.az ⟨.int .i64,k⟩) z) (kv:(m.g x k).1.ok) (hd:o.dst=some d) (cH:lF c.P f->(execOp a.eval o).run c.P w = .ok (.enter f [v,z].toArray) w) {Q:Exit->Act->World->Prop} :
  o.wp c.P a w (λ a' w'=>∃ G',Inv c G' ((s.bQ.dT id τ (xs.set i y)).put (some d) (.az ⟨.int .i64,(m.g x k).2.2⟩)) a' w') Q:=by
 obtain⟨oU,kl⟩:=hE.mark f _ hm
 obtain⟨rfl,QH⟩:=Po hz
 obtain⟨_,a0,n,cap,l,fB,gQ,hl,_⟩:=hv
 have hux:=TV.aX hx
 subst hux
 obtain⟨rfl,v',f1,p1,p2,p3,p4,p5⟩:=MZ (h.aI.tr id τ xs aN) (h.aI.nd id τ xs aN) fB gQ hu tR o8
 rw[hl] at p1
 simp only[a1w] at p1
 subst p1
 have hO:xQ w ⟨m.τ,x⟩ v f1:=by
  obtain⟨DG,g⟩:=m
  cases DG with
  | st s=>cases tR
  | _=>exact p2
 unfold Oper.wp
 rw[cH oU]
 simp only[Oper.upon]
 refine (kl x k w v f1 kv QH (h.Vp λ b hb=>(h.aI.pl id τ xs b aN (p4 b hb)).2.1) hO p3 λ b hb=>(h.aI.pl id τ xs b aN (p4 b hb)).2.2.1).mono ?_
 rintro e w' ⟨rfl,VI,hk,jN,qM,Jt,sZ⟩
 have hO2:Ow w' (TV.aT ⟨m.τ,(m.g x k).2.1⟩) [v] jN:=by
  obtain⟨DG,g⟩:=m
  cases DG with
  | st s=>cases tR
  | _=>exact qM
 have uX:l.set (i * τ.size+off) v=l:=by
  apply a4z
  intro j
  rw[a4Q]
  split
  .rename_i e
   subst e
   split
   .exact hl.symm
   .rename_i hn
    rw[a4D (by omega)]
  .rfl
 obtain⟨uf,hT,VQ,Zp⟩:=p5 w' ⟨m.τ,(m.g x k).2.1⟩ y v jN hy (λ b hb hn=>by
  have fQ:=hk.block b (h.aI.pl id τ xs b aN hb).2.2.1 hn
  refine⟨λ ha=>?_,λ _=>fQ⟩
  rw[fQ,uX]
  obtain⟨v0,l0,a1,ND,q1,q2,_,_,_,q6⟩:=h.aI.tr id τ xs aN
  rw[fB] at q1
  simp only[a2X] at q1
  have q1:(Value.slice a0 xs.length cap::l)=v0::l0:=congrArg Array.toList q1
  simp only[a1C] at q1
  obtain⟨r1,r2⟩:=q1
  subst r2
  rw[q2,ha] at r1
  simp only[a3o] at r1
  rcases q6 with ⟨_,q7,_⟩|⟨b',f,t,q7,q8,q9,_⟩
  .rw[q7.1] at r1;cases r1.1
  .rw[q7] at r1
   have r1:=r1.1
   simp only[a1w,a3y,a1H] at r1
   subst r1
   exact⟨t,q9⟩) hO2 Jt (λ b hb=>(sZ b hb).imp (λ q=>q) λ q q'=>by have:=(h.aI.pl id τ xs b aN q').2.2.1;omega)
 rw[uX,<-fB] at hT
 show ∃ G',Inv c G' ((s.bQ.dT id τ (xs.set i y)).put (some d) (.az ⟨.int .i64,(m.g x k).2.2⟩)) (a.put o.dst (.int .i64 (m.g x k).2.2)) w'
 rw[hd]
 refine h.KL (w':=w') (t:=s.bQ.dT id τ (xs.set i y)) (A:=[(id,(G.η id,uf, .aq τ (xs.set i y)))]) ?_ ?_ ?_ (by simp) hk (λ b hb=>⟨_,a2g.2 rfl,p4 b hb⟩) rfl (λ i=>?_) (λ G' lk=>Ho VI)
 .intro p hp
  simp only[a2g] at hp
  subst hp
  exact⟨τ,xs,_,_,l,l,aN,rfl,fB,fB,hT,VQ⟩
 .intro p hp b hb
  simp only[a2g] at hp
  subst hp
  rcases Zp b hb with q|q
  .exact .inl ⟨_,a2g.2 rfl,q⟩
  .rcases sZ b q with q|q
   .exact .inl ⟨_,a2g.2 rfl,p4 b q⟩
   .exact .inr (Lv h q.1 q.2)
 .intro p hp q hq b _ _
  simp only[a2g] at hp hq
  rw[hp,hq]
 .rw[Hy,gL]
theorem FK{lk:Nat->Option au}:∀ {cs:List AV} {ts:List Ty} {us us':List TV} {ids:List Nat} {l:List Value} {uf:List Nat},sJ lk cs ts=some (us,ids)->aJ (C1 c G lk w) cs l->us'.map TV.τ=ts->dA w' (us'.map TV.aT) l uf->uf.Nodup->ids.Nodup ->
  (∀ id∈ids,cp (lk id)=true)->∃ A:List (Nat×TE),A.map (·.1)=ids/\(∀ p∈A,P7 G lk w' p.1 p.2)/\(∀ p∈A,∀ b∈p.2.2.1,b∈uf)/\(∀ p∈A,∀ q∈A,∀ b∈p.2.2.1,b∈q.2.2.1->p.1=q.1) /\
   ∀ s:ag,(s.iX cs us').ar=s.ar/\∀ i,(s.iX cs us').ae i=Kj A s.ae i
 | [],[],us,us',ids,l,uf,ht,hl,V1,hO,dq,Zg,hT=>by
  simp only[sJ,a1w,a1y] at ht
  obtain⟨rfl,rfl⟩:=ht
  exact⟨[],rfl,by simp,by simp,by simp,λ s=>by cases us'<;>exact⟨rfl,λ _=>rfl⟩⟩
 | cc::cs,t::ts,us,us',ids,l,uf,ht,hl,V1,hO,dq,Zg,hT=>by
  simp only[sJ] at ht
  split at ht
  case h_2=>cases ht
  case h_1 x i0 hx =>
  split at ht
  case h_2=>cases ht
  case h_1 r j hr =>
  simp only[a1w,a1y] at ht
  obtain⟨rfl,rfl⟩:=ht
  match us',l,V1,hl,hO with
  | u'::us',v::l,V1,hl,hO =>
  simp only[a2p,a1C] at V1
  obtain⟨QP,Si⟩:=V1
  obtain⟨v1,r1,f1,f2,e1,e2,o1,o2⟩:=hO
  simp only[a1C] at e1
  obtain⟨rfl,rfl⟩:=e1
  subst e2
  rw[a1X] at dq Zg
  obtain⟨Sx,Sy,Q3⟩:=dq
  obtain⟨ni1,ni2,ni3⟩:=Zg
  obtain⟨A,a1,a2,a3,a4,a5⟩:=FK hr hl.2 Si o2 Sy ni2 (λ id aN=>hT id (by simp[aN]))
  have skip:i0=[]->(∀ s:ag,(s.iX (cc::cs) (u'::us'))=s.iX cs us')->∃ A:List (Nat×TE),A.map (·.1)=i0++j/\(∀ p∈A,P7 G lk w' p.1 p.2)/\(∀ p∈A,∀ b∈p.2.2.1,b∈f1++f2)/\(∀ p∈A,∀ q∈A,∀ b∈p.2.2.1,b∈q.2.2.1->p.1=q.1) /\
   ∀ s:ag,(s.iX (cc::cs) (u'::us')).ar=s.ar/\∀ i,(s.iX (cc::cs) (u'::us')).ae i=Kj A s.ae i:=λ hi hs =>
   ⟨A,by rw[hi];exact a1,a2,λ p hp b hb=>by simp[a3 p hp b hb],a4,λ s=>by rw[hs];exact a5 s⟩
  cases cc with
  | az z =>
   simp only[eK] at hx
   split at hx
   .simp only[a1w,a1y] at hx
    exact skip hx.2.symm λ s=>by obtain⟨aV,y'⟩:=u';cases aV<;>rfl
   .cases hx
  | nil =>
   cases t with
   | slice t' =>
    simp only[eK,a1w,a1y] at hx
    exact skip hx.2.symm λ s=>by obtain⟨aV,y'⟩:=u';cases aV<;>rfl
   | _=>cases hx
  | row id =>
   simp only[eK] at hx
   split at hx
   .rename_i oo
    split at hx
    .simp only[a1w,a1y] at hx
     have:=hT id (by rw[<-hx.2];simp)
     rw[oo] at this
     cases this
    .cases hx
   .cases hx
  | aq id =>
   simp only[eK] at hx
   split at hx
   .rename_i aV ys oo
    split at hx
    .rename_i y' Pn
     simp only[a1w,a1y] at hx
     obtain⟨_,rfl⟩:=hx
     have e:=TV.aX Pn
     have et:Ty.slice aV=t:=congrArg TV.τ e
     subst et
     obtain⟨Ns,yu⟩:=u'
     have QP:Ns=Ty.slice aV:=QP
     subst QP
     obtain⟨_,l0,fB,_⟩:=hl.1
     obtain⟨l',R4,_⟩:=jH.Py (τ:=aV) (xs:=yu) o1
     refine⟨(id,(.tuple (v::l').toArray,f1, .aq aV yu))::A,by simp[a1],?_,?_,?_,λ s=>?_⟩
     .intro p hp
      rcases a1N.1 hp with rfl|hp
      .exact⟨aV,ys,yu,v,l0,l',oo,rfl,fB,rfl,R4,Sx⟩
      .exact a2 p hp
     .intro p hp b hb
      rcases a1N.1 hp with rfl|hp
      .exact a1A.2 (.inl hb)
      .exact a1A.2 (.inr (a3 p hp b hb))
     .intro p hp q hq b hb cm
      rcases a1N.1 hp with rfl|hp<;>rcases a1N.1 hq with rfl|hq
      .rfl
      .exact absurd rfl (Q3 b hb b (a3 q hq b cm))
      .exact absurd rfl (Q3 b cm b (a3 p hp b hb))
      .exact a4 p hp q hq b hb cm
     .obtain⟨q1,q2⟩:=a5 (s.dT id aV yu)
      refine⟨q1,λ i=>?_⟩
      have r7:(s.iX (.aq id::cs) (⟨.slice aV,yu⟩::us')).ae i=Kj A (s.dT id aV yu).ae i:=q2 i
      rw[r7]
      have ky:∀ e,ae A id=some e->False:=λ e he=>by
       have:id∈A.map (·.1):=a1D.2 ⟨_,fS he,rfl⟩
       rw[a1] at this
       exact ni3 id (by simp) id this rfl
      unfold Kj
      simp only[ae]
      by_cases hi:i=id
      .subst hi
       cases hA:ae A i with
       | none=>simp[gL]
       | some e=>exact (ky e hA).elim
      .have:Nat.beq id i=false:=by
        cases hb:Nat.beq id i with
        | false=>rfl
        | true=>exact absurd (a1x hb).symm hi
       simp only[this]
       cases ae A i with
       | none=>simp[gL,hi]
       | some e=>rfl
    .cases hx
   .cases hx
  | _=>cases hx
 | [],_::_,_,_,_,_,_,ht,_,_,_,_,_,_=>by cases ht
 | _::_,[],_,_,_,_,_,ht,_,_,_,_,_,_=>by cases ht
theorem Md(hE:bD c.P c.E)(h:Inv c G s a w){o:Oper}{f:FuncId}{m:Aj}(hm:c.E.mark f=some m){cs:List AV}{x:m.τ.den}{ids:List Nat}(ht:rF s.ae m.τ (.agg cs)=some (x,ids))(dq:ids.Nodup)(hT:∀ id∈ids,cp (s.ae id)=true)
  {k:Int} {v z:Value} {d:Nat} (hv:VR c G s.ae w (.agg cs) v) (hz:VR c G s.ae w (.az ⟨.int .i64,k⟩) z) (kv:(m.g x k).1.ok) (hd:o.dst=some d) (cH:lF c.P f->(execOp a.eval o).run c.P w = .ok (.enter f [v,z].toArray) w) {Q:Exit->Act->World->Prop} :
  o.wp c.P a w (λ a' w'=>∃ G',Inv c G' ((s.bQ.iX cs (TV.cells ⟨m.τ,(m.g x k).2.1⟩)).put (some d) (.az ⟨.int .i64,(m.g x k).2.2⟩)) a' w') Q:=by
 obtain⟨oU,kl⟩:=hE.mark f _ hm
 obtain⟨rfl,QH⟩:=Po hz
 obtain⟨fp,hO,Ju,qW⟩:=nV h ht hv dq
 have bC:∀ b∈fp,b<w.heap.size:=λ b hb=>by
  obtain⟨id,hi,hq⟩:=qW b hb
  rcases hq with ⟨τ,xs,q1,q2⟩|⟨e,τ,xs,q1,q2⟩
  .exact (h.aI.pl id τ xs b q1 q2).2.2.1
  .exact (h.place id _ b q1 q2).2.2
 have Io:∀ b,tY G s.ae ids b->∃ id∈ids,b∈G.φ id:=λ b hb=>by
  obtain⟨id,hi,hq⟩:=hb
  rcases hq with ⟨τ,xs,q1,q2⟩|⟨e,τ,xs,q1,q2⟩
  .exact⟨id,hi,q2⟩
  .have:=hT id hi
   rw[q1] at this
   cases this
 unfold Oper.wp
 rw[cH oU]
 simp only[Oper.upon]
 refine (kl x k w v fp kv QH (h.Vp λ b hb=>by
  obtain⟨id,hi,hq⟩:=qW b hb
  rcases hq with ⟨τ,xs,q1,q2⟩|⟨e,τ,xs,q1,q2⟩
  .exact (h.aI.pl id τ xs b q1 q2).2.1
  .exact (h.place id _ b q1 q2).2.1) hO Ju bC).mono ?_
 rintro e w' ⟨rfl,VI,hk,uf,qM,Jt,sZ⟩
 show ∃ G',Inv c G' ((s.bQ.iX cs (TV.cells ⟨m.τ,(m.g x k).2.1⟩)).put (some d) (.az ⟨.int .i64,(m.g x k).2.2⟩)) (a.put o.dst (.int .i64 (m.g x k).2.2)) w'
 rw[hd]
 obtain⟨DG,g⟩:=m
 cases DG with
 | st st =>
  simp only[rF] at ht
  split at ht
  case h_2=>cases ht
  case h_1 us i0 lU =>
  split at ht
  case h_2=>cases ht
  case h_1 y0 hy0 =>
  simp only[a1w,a1y] at ht
  obtain⟨rfl,rfl⟩:=ht
  obtain⟨l,rfl,hl⟩:=hv
  obtain⟨l2,QI,qM⟩:=qM
  simp only[a5d] at QI
  have QI:l=l2:=congrArg Array.toList QI
  subst QI
  rw[show ((⟨.st st,g⟩:Aj).g y0 k).2.1=(g y0 k).2.1 from rfl,aM.cq] at qM
  obtain⟨A,a1,a2,a3,a4,a5⟩:=FK (us':=st.cells (g y0 k).2.1) lU hl (aM.rT st _) qM Jt dq hT
  obtain⟨q1,q2⟩:=a5 s.bQ
  have Ye:∀ id∈i0,∃ p∈A,p.1=id:=λ id aN=>by
   rw[<-a1] at aN
   obtain⟨p,hp,rfl⟩:=a1D.1 aN
   exact⟨p,hp,rfl⟩
  refine h.KL (w':=w') (t:=s.bQ.iX cs (st.cells (g y0 k).2.1)) (A:=A) a2 ?_ a4 (by rw[a1];exact dq) hk ?_ q1 q2 (λ G' lk=>Ho VI)
  .intro p hp b hb
   rcases sZ b (a3 p hp b hb) with q|q
   .obtain⟨id,hi,qT⟩:=Io b (qW b q)
    obtain⟨q,hq,rfl⟩:=Ye id hi
    exact .inl ⟨q,hq,qT⟩
   .exact .inr (Lv h q.1 q.2)
  .intro b hb
   obtain⟨id,hi,qT⟩:=Io b (qW b hb)
   obtain⟨q,hq,rfl⟩:=Ye id hi
   exact⟨q,hq,qT⟩
 | _=>cases ht
end
end Go.Proofs.YtaaamahdcpcofaaDoor

namespace Go.Proofs.YtaaamahdcpcofaaDoor
section
variable {c:Ctx} {G:Gh} {s:ag} {a:Act} {w w':World}
theorem Cm(h:Inv c G s a w){o:Oper}{v:AV}{x:Value}{Q:Exit->Act->World->Prop}(hr:(execOp a.eval o).run c.P w = .ok (.value x) w)(hv:VR c G s.ae w v x) :
  o.wp c.P a w (λ a' w'=>∃ G',Inv c G' (s.put o.dst v) a' w') Q:=by
 unfold Oper.wp
 rw[hr]
 exact⟨G,Inv.put h hv⟩
theorem yW{η:Value}{τ:Ty}{xs:List τ.den}{fp:List Nat}(hT:jH w η τ xs fp){a0:Option Addr}{n cap:Nat}{l:List Value}(fB:η = .tuple (.slice a0 n cap::l).toArray){i:Nat}(hi:i<n) :
  n=xs.length/\∃ b f t,a0=some ⟨b,0,none⟩/\fp=b::f/\w.heap[b]?=some (.cells l.toArray t (0,0))/\bV w (xs.map τ.aT) l f:=by
 obtain⟨v0,l0,a1,ND,h1,h2,h3,h4,h5,h6⟩:=hT
 rw[fB] at h1
 simp only[a2X] at h1
 have h1:(Value.slice a0 n cap::l)=v0::l0:=congrArg Array.toList h1
 simp only[a1C] at h1
 obtain⟨hq,BR⟩:=h1
 subst BR
 rw[h2] at hq
 simp only[a3o] at hq
 obtain⟨rfl,rfl,rfl⟩:=hq
 rcases h6 with ⟨rfl,_,_⟩|⟨b,f,t,q1,q2,q3,q4⟩
 .simp at hi
 .exact⟨rfl,b,f,t,q1,q2,q3,q4.2⟩
theorem HK{t:Ty}{x:Value}(h:C1 c G s.ae w (zeroCell t) x)(ht:t.agg=false):Ow w (t.aT t.zero) [x] []:=by
 cases t with
 | slice t' =>
  have h:x = .slice none 0 0:=h
  subst h
  exact⟨none,0,rfl,a2u _,by simp[maxLen],a3g _, .inl ⟨rfl,⟨rfl,rfl⟩,rfl⟩⟩
 | st s=>cases ht
 | mv t=>exact Ow.gf (S:=G.S) _ rfl h.2
 | ptr=>exact Ow.gf (S:=G.S) _ rfl h.2
 | int k=>exact Ow.gf (S:=G.S) _ rfl h.2
 | bool=>exact Ow.gf (S:=G.S) _ rfl h.2
 | str=>exact Ow.gf (S:=G.S) _ rfl h.2
theorem TI(s:aM):∀ t∈s.uF,t.agg=false:=λ t ht=>by
 rw[<-aM.rT s s.zero] at ht
 obtain⟨u,hu,rfl⟩:=a1D.1 ht
 exact Ep s _ u hu
theorem WO{c:Ctx}{G:Gh}{s:ag}{τ:Ty}{z:Value}(h:wX τ z=true):Ow w (τ.aT τ.zero) z.cells.toList []:=by
 have h1:=mC (c:=c) (G:=G) (lk:=s.ae) (w:=w) h
 cases τ with
 | st st =>
  simp only[zeroCells] at h1
  show Ow w (st.aT st.zero) _ []
  rw[aM.cq]
  have hz:(st.cells st.zero).map TV.aT=st.uF.map λ t=>t.aT t.zero:=by cases st<;>rfl
  rw[hz]
  have h2:=aJ.of_map _ h1
  have:∀ (ts:List Ty) (vs:List Value),aJ (λ t x=>Ow w (t.aT t.zero) [x] []) ts vs->dA w (ts.map λ t=>t.aT t.zero) vs []:=by
   intro ts
   induction ts with
   | nil=>intro vs h;cases vs<;>first|exact⟨rfl,rfl⟩|cases h
   | cons t ts ih =>
    intro vs h
    cases vs with
    | nil=>cases h
    | cons v vs=>exact⟨v,vs,[],[],rfl,rfl,h.1,ih vs h.2⟩
  exact this _ _ (h2.imp λ t x ht hx=>HK hx (TI st t ht))
 | _ =>
  simp only[zeroCells] at h1
  match hc:z.cells.toList,h1 with
  | [x],h1=>exact HK h1.1 rfl
theorem bV.P9:∀ (ds:List D) {es:List D} {l m:List Value} {n:Nat},bV w ds l []->(∀ d∈ds,d.size=n)->l.length=ds.length * n->bV w es m []->bV w (ds++es) (l++m) []
 | [],es,l,m,n,_,_,hl,h=>by
  have:l=[]:=List.eq_nil_of_length_eq_zero (by simpa using hl)
  subst this;simpa using h
 | d::ds,es,l,m,n,h,hn,hl,h'=>by
  obtain⟨cc,r,f1,f2,rfl,hf,h3,h4⟩:=h
  have hf:=(List.append_eq_nil_iff.1 hf.symm)
  obtain⟨rfl,rfl⟩:=hf
  have hc:cc.length=n:=by rw[Ow.length _ h3];exact hn d (by simp)
  refine⟨cc,r++m,[],[],by simp,rfl,h3,bV.P9 ds h4 (λ d hd=>hn d (by simp[hd])) ?_ h'⟩
  simp only[a1T,a1M,a2C,Nat.one_mul] at hl
  omega
theorem bV.more:∀ (ds:List D) {l:List Value} {fp:List Nat} (m:List Value),bV w ds l fp->bV w ds (l++m) fp
 | [],_,_,_,h=>h
 | d::ds,_,_,m,h=>by
  obtain⟨cc,r,f1,f2,rfl,hf,h3,h4⟩:=h
  exact⟨cc,r++m,f1,f2,by simp,hf,h3,bV.more ds m h4⟩
theorem D7{d:D}{z:Array Value}(h:Ow w d z.toList []):∀ k:Nat,bV w (List.replicate k d) (madeCells z (k * z.size)).toList []
 | 0=>rfl
 | k+1=>by
  have hz:d.size=z.size:=by have:=Ow.length _ h;simpa using this.symm
  rw[AJ,a4h]
  refine bV.P9 (n:=z.size) _ (D7 h k) (λ e he=>by rw[List.eq_of_mem_replicate he];exact hz) (by simp[madeCells]) ⟨z.toList,[],[],[],by simp,rfl,h,rfl⟩
theorem Ib(h:Inv c G s a w)(id:Nat):Inv c G (s.gone id) a w:=by
 obtain⟨h1,_,_⟩:=h.clear id
 have cu:(s.gone id).ae=λ i=>if i=id then none else (s.b8 id).ae i:=by
  funext i
  exact fj id _ i
 unfold Inv
 show bc c G (s.b8 id).sl (s.b8 id).ar.length (s.gone id).ae a w
 rw[cu,show (s.b8 id).ar.length=s.ar.length from by simp[ag.b8]]
 exact h1
theorem zG(s:ag)(id i:Nat):(s.gone id).ae i=if i=id then none else (s.ae i).map (au.kill id):=by
 show ae (bK id (s.b8 id).aC) i=_
 rw[fj,<-congrFun (eU s id) i]
 rfl
theorem uL:∀ (ids:List Nat) {s:ag},Inv c G s a w->Inv c G (ids.foldl ag.gone s) a w
 | [],_,h=>h
 | id::r,_,h=>uL r (Ib h id)
theorem Ss(id:Nat){τ:Ty}{xs:List τ.den}{o:Option au}(h:o=some (.aq τ xs)):o.map (au.kill id)=some (.aq τ xs):=by subst h;rfl
theorem Jq:∀ (ids:List Nat) {s:ag} {id:Nat} {τ:Ty} {xs:List τ.den},s.ae id=some (.aq τ xs)->id∉ids->(ids.foldl ag.gone s).ae id=some (.aq τ xs)
 | [],_,_,_,_,h,_=>h
 | i::r,s,id,τ,xs,h,hn=>by
  refine Jq r ?_ (λ hh=>hn (by simp[hh]))
  rw[zG,a1B (λ e=>hn (by simp[e]))]
  exact Ss i h
theorem EG:∀ (ids:List Nat) {s:ag} {i:Nat} {o:au},(ids.foldl ag.gone s).ae i=some o->i∉ids/\∃ o',s.ae i=some o'/\∀ τ xs,o = .aq τ xs->o' = .aq τ xs
 | [],s,i,o,h=>⟨by simp,o,h,λ _ _ e=>e⟩
 | id::r,s,i,o,h=>by
  obtain⟨h1,o',h2,h3⟩:=EG r h
  rw[zG] at h2
  split at h2
  .cases h2
  .rename_i fP
   simp only[a2r] at h2
   obtain⟨p,hp,hk⟩:=h2
   refine⟨by simp[fP,h1],p,hp,λ τ xs e=>?_⟩
   have:=h3 τ xs e
   subst this
   have hm:(some p).map (au.kill id)=some (.aq τ xs):=by rw[<-hk];rfl
   have:=lv hm
   simpa using this
theorem Cq{o:Oper}{T:TypeId}{ad x:Operand}(bl:o.op = .store T ad x){w':World}{s':ag}{G':Gh}(hr:(Instr.storeAt T (a.eval ad) (a.eval x)).run c.P w = .ok () w')(hI:Inv c G' (s'.put none .any) a w'){Q:Exit->Act->World->Prop} :
  o.wp c.P a w (λ a' w'=>∃ G',Inv c G' (s'.put o.dst .any) a' w') Q:=by
 unfold Oper.wp
 have:(execOp a.eval o).run c.P w = .ok .skip w':=by simp only[execOp,bl,a2h,hr,a1U,a2i]
 rw[this]
 exact⟨G',Inv.put (s:=s') hI trivial⟩
theorem MQ(hE:bD c.P c.E)(h:Inv c G s a w){T:TypeId}{τ aV:Ty}{bt e:Nat}(hT:ae c.E.ty T=some (τ,bt,e)){id i off:Nat}{xs:List aV.den}(aN:s.ae id=some (.aq aV xs)){p x:Value}(hp:VR c G s.ae w (.fL id i off aV.size) p)(o8:off+τ.size<=aV.size)
  (uj:x.cells.toList.length=τ.size) (BQ:∀ u∈x.cells.toList,u.oneCell'=true) {y:aV.den}
  (hO:∀ (b:Nat) (f:List Nat) (l:List Value) (w':World),G.φ id=b::f->l.length>=i * aV.size+aV.size->bV w (xs.map aV.aT) l f->(∀ k,k≠b->w'.heap[k]?=w.heap[k]?) ->
   ∃ f',bV w' ((xs.set i y).map aV.aT) (l.take (i * aV.size+off)++x.cells.toList++l.drop (i * aV.size+off+τ.size)) f'/\f'.Nodup/\b∉f'/\∀ k∈f',k∈f\/tX c G s.ae w k) :
  ∃ w' G',(Instr.storeAt T p x).run c.P w = .ok () w'/\Inv c G' (s.bQ.dT id aV (xs.set i y)) a w':=by
 obtain⟨_,b,n,cap,l,fB,hi,rfl⟩:=hp
 obtain⟨rfl,b',f,t,e1,qW,hh,lJ⟩:=yW (h.aI.tr id aV xs aN) fB hi
 simp only[a1w,a3y,a1H] at e1
 subst e1
 have cj:∀ d∈xs.map aV.aT,d.size=aV.size:=by
  intro d hd
  obtain⟨z,_,rfl⟩:=a1D.1 hd
  exact Ty.cK aV z
 obtain⟨_,_,_,_,hlen,_,_⟩:=bV.split (xs.map aV.aT) i (aV.aT (xs.getD i aV.zero)) lJ cj (by simp[List.getD,hi])
 have cH:=zY (c:=c) (l:=l) hE hT (o:=i * aV.size+off) (x:=x) hh uj BQ (by omega)
 have yp:∀ k,k≠b->(w.setRow b (l.take (i * aV.size+off)++x.cells.toList++l.drop (i * aV.size+off+τ.size)).toArray).heap[k]?=w.heap[k]?:=λ k hk=>om w hh k hk
 obtain⟨f',k1,k2,k3,k4⟩:=hO b f l _ qW hlen lJ yp
 have rM:=a5B w b l.toArray (l.take (i * aV.size+off)++x.cells.toList++l.drop (i * aV.size+off+τ.size)).toArray t (0,0) hh
 have R4:jH (w.setRow b (l.take (i * aV.size+off)++x.cells.toList++l.drop (i * aV.size+off+τ.size)).toArray) (.tuple (.slice (some ⟨b,0,none⟩) xs.length cap::(l.take (i * aV.size+off)++x.cells.toList++l.drop (i * aV.size+off+τ.size))).toArray) aV (xs.set i y) (b::f'):=by
  obtain⟨v0,l0,a1,ND,h1,h2,h3,h4,h5,h6⟩:=h.aI.tr id aV xs aN
  rw[fB] at h1
  simp only[a2X] at h1
  have h1:(Value.slice (some ⟨b,0,none⟩) xs.length cap::l)=v0::l0:=congrArg Array.toList h1
  simp only[a1C] at h1
  obtain⟨hq,BR⟩:=h1
  rw[h2] at hq
  simp only[a3o] at hq
  obtain⟨rfl,_,rfl⟩:=hq
  have GF:l.length=cap * aV.size:=by
   rw[BR]
   rcases h6 with ⟨_,h',_⟩|⟨_,_,_,_,_,_,k0,_⟩
   .cases h'.1
   .exact k0
  exact⟨_,_,_,cap,rfl,by simp,by simpa using h3,h4,by simpa using h5, .inr ⟨b,f',t,rfl,rfl,rM,by rw[<-GF];simp only[List.length_append,List.length_take,List.length_drop,uj];omega,k1⟩⟩
 have T7:=h.aI.pl id aV xs
 have:=h.KL (w':=w.setRow b (l.take (i * aV.size+off)++x.cells.toList++l.drop (i * aV.size+off+τ.size)).toArray) (t:=s.bQ.dT id aV (xs.set i y)) (F:=λ k=>k=b)
  (A:=[(id,(.tuple (.slice (some ⟨b,0,none⟩) xs.length cap::(l.take (i * aV.size+off)++x.cells.toList++l.drop (i * aV.size+off+τ.size))).toArray,b::f', .aq aV (xs.set i y)))]) ?_ ?_ ?_ (by simp)
  ⟨rfl,rfl,rfl,by simp[World.setRow],λ k hk fP=>yp k fP⟩ (λ k hk=>⟨_,a2g.2 rfl,by rw[qW,hk];simp⟩) rfl (λ j=>?_) (d:=none) (v := .any) (x:=undef) (λ _ _=>trivial)
 .obtain⟨G',hG⟩:=this
  exact⟨_,G',cH,hG⟩
 .intro p hp
  simp only[a2g] at hp
  subst hp
  exact⟨aV,xs,_,_,l,_,aN,rfl,fB,rfl,R4,a2o.2 ⟨k3,k2⟩⟩
 .intro p hp k hk
  simp only[a2g] at hp
  subst hp
  rcases a1N.1 hk with rfl|hk
  .exact .inl ⟨_,a2g.2 rfl,by rw[qW];simp⟩
  .rcases k4 k hk with hk|hk
   .exact .inl ⟨_,a2g.2 rfl,by rw[qW];simp[hk]⟩
   .exact .inr (hk.grow (by simp[World.setRow]))
 .intro p hp q hq k _ _
  simp only[a2g] at hp hq
  rw[hp,hq]
 .rw[Hy,gL]
theorem xQ.cells{w:World}{τ:Ty}{y:τ.den}{x:Value}{fp:List Nat}(h:xQ w ⟨τ,y⟩ x fp):Ow w (τ.aT y) x.cells.toList fp:=by
 cases τ with
 | st s =>
  obtain⟨cs,rfl,h⟩:=h
  exact h
 | slice t =>
  obtain⟨a',cap,h1,_⟩:=id h
  simp only[a1C,a1H] at h1
  subst h1
  exact h
 | mv t =>
  have h1:=Ow.length _ (show Ow w (XA t.size t.aT y) [x] fp from h)
  cases hy:(show Option (List t.den) from y) with
  | none =>
   have e:y=(none:Option (List t.den)):=hy
   subst e
   obtain⟨⟨a',n,m,h1⟩,_⟩:=id h
   simp only[a1C,a1H] at h1
   subst h1
   exact h
  | some l =>
   have e:y=(some l:Option (List t.den)):=hy
   subst e
   obtain⟨a',cap,h1,_⟩:=id h
   simp only[a1C,a1H] at h1
   subst h1
   exact h
 | ptr=>obtain⟨⟨p,h1⟩,_⟩:=id h;simp only[a1C,a1H] at h1;subst h1;exact h
 | int k=>obtain⟨⟨h1,_⟩,_⟩:=id h;simp only[a1C,a1H] at h1;subst h1;exact h
 | bool=>have h1:=h.1;simp only[a1C,a1H] at h1;subst h1;exact h
 | str=>obtain⟨⟨z,h1,_⟩,_⟩:=id h;simp only[a1C,a1H] at h1;subst h1;exact h
theorem MN(l:List Value)(k:Nat)(v:Value)(h:k<l.length):l.take k++[v]++l.drop (k+1)=l.set k v:=by
 rw[List.set_eq_take_append_cons_drop,a1S h,a2t];rfl
theorem Gp(h:Inv c G s a w){ids:List Nat}{b:Nat}(hb:tY G s.ae ids b):tX c G (ids.foldl ag.gone s).ae w b:=by
 obtain⟨id,hi,hq⟩:=hb
 have hp:(c.w0.heap.size<=b\/c.X b)/\¬ G.S b/\b<w.heap.size:=by
  rcases hq with ⟨τ,xs,q1,q2⟩|⟨e,τ,xs,q1,q2⟩
  .obtain⟨p1,p2,p3,_⟩:=h.aI.pl id τ xs b q1 q2;exact⟨p1,p2,p3⟩
  .obtain⟨p1,p2,p3⟩:=h.place id _ b q1 q2;exact⟨p1,p2,p3⟩
 refine⟨hp.1,hp.2.1,hp.2.2,λ i o cr qT=>?_,λ j τ xs hj oT=>?_⟩
 .obtain⟨h1,o',h2,_⟩:=EG ids cr
  rcases hq with ⟨τ,xs,q1,q2⟩|⟨e,τ,xs,q1,q2⟩
  .exact (h.aI.pl id τ xs b q1 q2).2.2.2 i o' h2 qT
  .have:=h.apart i id o' _ b h2 q1 qT q2
   subst this;exact h1 hi
 .obtain⟨h1,o',h2,h3⟩:=EG ids hj
  have:=h3 τ xs rfl
  subst this
  rcases hq with ⟨aV,cT,q1,q2⟩|⟨e,aV,cT,q1,q2⟩
  .have:=h.aI.ap j id _ _ _ _ b h2 q1 oT q2
   subst this;exact h1 hi
  .exact (h.aI.pl j τ xs b h2 oT).2.2.2 id _ q1 q2
theorem Kw{l:List Operand}{u v:AV}(h:Inv c G s a w)(hl:l.map s.eval=[u,v]):∃ x y,l.map a.eval=[x,y]/\VR c G s.ae w u x/\VR c G s.ae w v y:=by
 have:=aJ.pI (bf h) l
 rw[hl] at this
 match hx:l.map a.eval,this with
 | [x,y],hh=>exact⟨x,y,rfl,hh.1,hh.2.1⟩
theorem SJ(hE:bD c.P c.E)(h:Inv c G s a w){o:Oper}{vc:Vc}{s':ag}(hq:PD c.E s o=some (vc,s'))(fi:vc.ok){Q:Exit->Act->World->Prop} :
  o.wp c.P a w (λ a' w'=>∃ G',Inv c G' s' a' w') Q:=by
 unfold PD at hq
 split at hq
 case h_1 T x ix bl =>
  split at hq
  case h_2=>cases hq
  case h_1 τ r hT =>
  split at hq
  case h_2=>cases hq
  case h_1 k i id hi hx =>
  split at hq
  case h_2=>cases hq
  case h_1 aV xs aN =>
  split at hq
  case h_2=>cases hq
  case h_1 kZ =>
  have cj:aV.size=τ.size:=by
   simp only[a3p] at kZ
   rcases kZ with kZ|kZ
   .rw[a2d kZ]
   .unfold Ty.Yj at kZ
    split at kZ
    .rename_i p q
     have e:=congrArg List.length (a2d kZ)
     rw[a2J] at e
     have e1:=congrArg List.length (aM.rT p p.zero)
     have e2:=congrArg List.length (aM.rT q q.zero)
     rw[a2J,aM.ki] at e1 e2
     simp only[Ty.size];omega
    .cases kZ
  simp only[a1w,a1y] at hq
  obtain⟨rfl,rfl⟩:=hq
  have tD:=bf h ix
  rw[hi] at tD
  obtain⟨tD,_⟩:=tD
  simp only[a1C,a1H] at tD
  have hv:=bf h x
  rw[hx] at hv
  obtain⟨hit,l,fB,ad,m,cap,Dw⟩:=hv
  obtain⟨h0,h1⟩:=fi
  have hTr:=h.aI.tr id aV xs aN
  rw[Dw] at fB
  have hm:m=xs.length:=by
   obtain⟨v0,l0,a1,ND,q1,q2,_⟩:=hTr
   rw[fB] at q1
   simp only[a2X] at q1
   have q1:(Value.slice ad m cap::l)=v0::l0:=congrArg Array.toList q1
   simp only[a1C] at q1
   rw[q2] at q1
   simp only[a3o] at q1
   exact q1.1.2.1
  subst hm
  obtain⟨_,b,f,t,e1,_⟩:=yW hTr fB (i:=i.toNat) (by omega)
  subst e1
  refine Cm h (x := .pointer (some ⟨b,0+i.toNat * τ.size,none⟩)) ?_ ⟨hit,b,_,cap,l,fB,by omega,by simp⟩
  simp only[execOp,bl,Dw,tD,a2h,rC hE hT h0 h1,a1U,a2i]
 case h_2 T x i bl =>
  split at hq
  case h_2=>cases hq
  case h_1 st r hT =>
  split at hq
  case h_2=>cases hq
  case h_1 id k off sz hx =>
  split at hq
  case h_2=>cases hq
  case h_1 bC =>
  simp only[a1w,a1y] at hq
  obtain⟨rfl,rfl⟩:=hq
  have bC:i<st.jd.length:=by simpa [Nat.blt_eq] using bC
  have hv:=bf h x
  rw[hx] at hv
  obtain⟨h1,b,m,cap,l,h2,h3,h4⟩:=hv
  refine Cm h (x := .pointer (some ⟨b,k * sz+(off+st.gF i),none⟩)) ?_ ⟨h1,b,m,cap,l,h2,h3,rfl⟩
  simp only[execOp,bl,h4,a2h,mg hE hT bC,a1U,a2i,a4o]
 case h_3 T ad bl =>
  split at hq
  case h_2=>cases hq
  case h_1 τ r hT =>
  split at hq
  case h_2=>cases hq
  case h_1 id i off sz hx =>
  split at hq
  case h_2=>cases hq
  case h_1 aV xs aN =>
  split at hq
  case h_2=>cases hq
  case h_1 u hu hb =>
  simp only[a1z,a2k] at hb
  obtain⟨zx,ET,LH⟩:=hb
  have zx:=a1x zx
  subst zx
  have LH:off<aV.size:=by simpa [Nat.blt_eq] using LH
  have hv:=bf h ad
  rw[hx] at hv
  obtain⟨h1,b,m,cap,l,h2,h3,h4⟩:=hv
  obtain⟨rfl,v,f1,p1,p2,_⟩:=MZ (h.aI.tr id aV xs aN) (h.aI.nd id aV xs aN) h2 h3 hu ET LH
  obtain⟨_,b',f,t,e1,_,hh,_⟩:=yW (h.aI.tr id aV xs aN) h2 h3
  simp only[a1w,a3y,a1H] at e1
  subst e1
  have tA:dk w b (i * aV.size+off) [v]:=λ j z hj=>by
   cases j with
   | zero =>
    simp at hj
    subst hj
    simp[World.cell?,hh,p1]
   | succ j=>simp at hj
  have Sg:τ.size=1:=Ty.lD ET
  have cH:(execOp a.eval o).run c.P w = .ok (.value (Dy τ [v])) w:=by
   simp only[execOp,bl,h4,a2h,qH hE hT tA (by rw[Sg];rfl),a1U,a2i]
  have hmk:Dy τ [v]=v:=by cases τ<;>first|rfl|cases ET
  rw[hmk] at cH
  have T8:u.τ=τ:=by
   unfold TV.part at hu
   split at hu
   .rename_i jP
    simp only[a1z] at jP
    simp only[a1w] at hu
    rw[<-hu];exact a2d jP.2
   .split at hu
    .split at hu
     .rename_i hd
      simp only[a1w] at hu
      rw[<-hu];exact a2d hd
     .cases hu
    .cases hu
  split at hq
  case h_1 zB =>
   simp only[a1w,a1y] at hq
   obtain⟨rfl,rfl⟩:=hq
   refine Cm h cH ?_
   obtain⟨Ns,yu⟩:=u
   have T8:Ns=τ:=T8
   subst T8
   have hl:(Ty.aT Ns yu).light=true:=tm zB yu
   have hr:Rd w G.S (Ty.aT Ns yu) [v]:=by
    cases Ns with
    | int k=>exact p2.1
    | bool=>exact p2.1
    | str=>exact p2.1
    | slice t=>cases zB
    | mv t=>cases zB
    | ptr=>exact p2.1
    | st s=>cases zB
   cases Ns with
   | mv t=>cases zB
   | st s=>cases zB
   | slice t=>cases zB
   | _=>exact hr
  case h_2 zB =>
   simp only[a1w,a1y] at hq
   obtain⟨rfl,rfl⟩:=hq
   refine Cm h cH ⟨h1,_,_,cap,l,h2,h3,p1,?_⟩
   obtain⟨Ns,yu⟩:=u
   have T8:Ns=τ:=T8
   subst T8
   cases Ns with
   | slice t =>
    obtain⟨a',S8,q,_⟩:=p2
    simp only[a1C,a1H] at q
    exact⟨_,_,_,q⟩
   | st s=>cases ET
   | mv t =>
    cases hy:(show Option (List t.den) from yu) with
    | none =>
     have e:yu=(none:Option (List t.den)):=hy
     subst e
     obtain⟨⟨a',n,m,q⟩,_⟩:=p2
     simp only[a1C,a1H] at q
     exact⟨_,_,_,q⟩
    | some l =>
     have e:yu=(some l:Option (List t.den)):=hy
     subst e
     obtain⟨a',S8,q,_⟩:=p2
     simp only[a1C,a1H] at q
     exact⟨_,_,_,q⟩
   | int k=>cases zB
   | bool=>cases zB
   | str=>cases zB
   | ptr=>cases zB
 case h_4 T ad x bl =>
  split at hq
  case h_2=>cases hq
  case h_1 τ r hT =>
  split at hq
  case h_2=>cases hq
  case h_1 id i off sz hx =>
  split at hq
  case h_2=>cases hq
  case h_1 aV xs aN =>
  split at hq
  case h_2=>cases hq
  case h_1 hb =>
  simp only[a1z] at hb
  obtain⟨zx,LH⟩:=hb
  have zx:=a1x zx
  subst zx
  have LH:off<aV.size:=by simpa [Nat.blt_eq] using LH
  have hp:=bf h ad
  rw[hx] at hp
  have Sl:=bf h x
  have gQ:i<xs.length:=by
   obtain⟨_,b,m,cap,l,h2,h3,_⟩:=hp
   obtain⟨h4,_⟩:=yW (h.aI.tr id aV xs aN) h2 h3
   omega
  split at hq
  case h_1 zB =>
   split at hq
   case h_2=>cases hq
   case h_1 u j hu =>
   split at hq
   case h_2=>cases hq
   case h_1 u0 y Xq hy =>
   simp only[a1w,a1y] at hq
   obtain⟨rfl,rfl⟩:=hq
   have tR:τ.agg=false:=by cases τ<;>first|rfl|cases zB
   have Sg:τ.size=1:=Ty.lD tR
   have tA:(a.eval x).cells.toList=[a.eval x]/\(a.eval x).oneCell'=true/\Ow w (τ.aT u) [a.eval x] []:=by
    have hc:C1 c G s.ae w (s.eval x) (a.eval x)/\(s.eval x).cell=true:=by
     have hcc:(s.eval x).cell=true:=by
      revert hu
      cases c8:s.eval x with
      | az v =>
       intro hu
       simp only[eK] at hu
       split at hu
       .rename_i Pn
        have e:=TV.aX Pn
        subst e
        cases τ<;>first|rfl|cases tR
       .cases hu
      | nil=>intro hu;cases τ<;>first|(cases zB;done)|(cases hu;done)
      | aq id=>intro hu;simp[eK] at hu
      | row id=>intro hu;simp[eK] at hu
      | _=>intro hu;cases hu
     exact⟨Sl.OB hcc,hcc⟩
    obtain⟨q1,q2⟩:=hc.1.leaf hc.2
    refine⟨by rw[q2],q1,?_⟩
    revert hu
    have LJ:=hc.1
    revert LJ
    cases s.eval x with
    | az v =>
     intro LJ hu
     simp only[eK] at hu
     split at hu
     .rename_i a0C Pn
      have e:=TV.aX Pn
      subst e
      simp only[a1w,a1y] at hu
      rw[<-hu.1]
      exact Ow.gf (S:=G.S) _ (tm a0C _) LJ.2
     .cases hu
    | nil=>intro _ hu;cases τ<;>first|(cases zB;done)|(cases hu;done)
    | aq id=>intro _ hu;simp[eK] at hu
    | row id=>intro _ hu;simp[eK] at hu
    | _=>intro _ hu;cases hu
   obtain⟨c1,c2,c3⟩:=tA
   obtain⟨w',G',k1,k2⟩:=MQ hE h hT aN hp (y:=y) (x:=a.eval x) (by omega) (by rw[c1,Sg];rfl) (by rw[c1];simpa using c2) (λ b f l w' Io hlen lJ yp=>by
    have cj:∀ d∈xs.map aV.aT,d.size=aV.size:=by
     intro d hd
     obtain⟨z,_,rfl⟩:=a1D.1 hd
     exact Ty.cK aV z
    have dq:=h.aI.nd id aV xs aN
    rw[Io,a2o] at dq
    obtain⟨Nc,LO⟩:=dq
    have km:∀ k∈f,w'.heap[k]?=w.heap[k]?:=λ k hk=>yp k λ e=>Nc (e ▸ hk)
    obtain⟨g0,g1,g2,rfl,_,m1,m2⟩:=bV.split (xs.map aV.aT) i (aV.aT (xs.getD i aV.zero)) lJ cj (by simp[List.getD,gQ])
    obtain⟨v,p0,p1,p2,rfl,q1,q2,q3⟩:=JF Xq tR m1
    have hy2:=q3 w' ⟨τ,u⟩ y (a.eval x) [] hy (λ k hk=>km k (by simp at hk ⊢;rcases hk with hk|hk<;>simp[hk])) (c3.aQ _ (by simp))
    have hr:=m2 w' (aV.aT y) _ (p0++[]++p2) (λ k hk=>km k (by simp at hk ⊢;rcases hk with hk|hk<;>simp[hk])) (by simp only[a3r,a3f,a2H];omega) hy2
    rw[Rl l _ _ _ _ LH hlen,<-a4v] at hr
    refine⟨_,by rw[c1,Sg,MN _ _ _ (by omega)];exact hr,?_,λ hk=>Nc ?_,λ k hk => .inl ?_⟩
    .refine wN (f1:=p0++p1++p2) LO (wN (f1:=p1) ?_ a2L (by simp)) (λ k hk => .inl (by simp at hk ⊢;rcases hk with hk|hk<;>simp[hk]))
     rw[a1X,a1X] at LO
     exact LO.1.2.1
    .simp at hk ⊢;rcases hk with hk|hk|hk|hk<;>simp[hk]
    .simp at hk ⊢;rcases hk with hk|hk|hk|hk<;>simp[hk])
   exact Cq bl k1 k2
  case h_2 zB =>
   split at hq
   case h_2=>cases hq
   case h_1 y ids o8 ht =>
   split at hq
   case h_2=>cases hq
   case h_1 y' dq Pn =>
   simp only[a1w,a1y] at hq
   obtain⟨rfl,rfl⟩:=hq
   have o8:=a1x o8
   subst o8
   have e:=TV.aX Pn
   have et:τ=aV:=congrArg TV.τ e
   subst et
   cases e
   have dq:=cY dq
   rw[a2o] at dq
   obtain⟨Yd,Xf⟩:=dq
   obtain⟨fq,o1,o2,o3⟩:=nV h ht Sl Xf
   have lU:=xQ.cells o1
   have hlen:=Ow.length _ lU
   rw[Ty.cK] at hlen
   have h1:=uL ids h
   have N1:=Jq ids aN Yd
   obtain⟨_,b0,m0,Z6,l0,a0G,hi0,hp0⟩:=hp
   obtain⟨w',G',k1,k2⟩:=MQ hE h1 hT N1 (i:=i) (off:=0) (p:=a.eval ad) ⟨by rw[N1];rfl,b0,m0,Z6,l0,a0G,hi0,hp0⟩ (y:=y) (x:=a.eval x) (by omega) hlen
    (Rd.sq (S:=λ b=>b∈fq) (x:=y) (Ow.rd _ lU λ b hb=>hb)) (λ b f l w' Io a1b lJ yp=>by
    have cj:∀ d∈xs.map τ.aT,d.size=τ.size:=by
     intro d hd
     obtain⟨z,_,rfl⟩:=a1D.1 hd
     exact Ty.cK τ z
    have Jt:=h.aI.nd id τ xs aN
    rw[Io,a2o] at Jt
    obtain⟨Nc,LO⟩:=Jt
    have km:∀ k∈f,w'.heap[k]?=w.heap[k]?:=λ k hk=>yp k λ e=>Nc (e ▸ hk)
    have wk:∀ k∈fq,k∉b::f:=λ k hk oW=>by
     refine h.kp (o3 k hk) (j:=[id]) ⟨id,by simp, .inl ⟨τ,xs,aN,by rw[Io];exact oW⟩⟩ λ x1 J4 y1 Nh e=>?_
     simp only[a2g] at Nh
     exact Yd (by rw[<-Nh,<-e];exact J4)
    obtain⟨g0,g1,g2,rfl,_,m1,m2⟩:=bV.split (xs.map τ.aT) i (τ.aT (xs.getD i τ.zero)) lJ cj (by simp[List.getD,gQ])
    have hr:=m2 w' (τ.aT y) (a.eval x).cells.toList fq (λ k hk=>km k (by simp at hk ⊢;rcases hk with hk|hk<;>simp[hk])) hlen (lU.aQ _ λ k hk=>yp k λ e=>wk k hk (by simp[e]))
    rw[<-a4v] at hr
    refine⟨g0++fq++g2,by rw[a3w];exact hr,?_,λ hk=>?_,λ k hk=>?_⟩
    .rw[a1X,a1X] at LO
     obtain⟨⟨n1,n2,n3⟩,n4,n5⟩:=LO
     refine eQ (eQ n1 o2 λ k hk oW=>wk k oW (by simp[hk])) n4 λ k hk oW=>?_
     rcases a1A.1 hk with hk|hk
     .exact n5 k (a1A.2 (.inl hk)) k oW rfl
     .exact wk k hk (by simp[oW])
    .rcases a1A.1 hk with hk|hk
     .rcases a1A.1 hk with hk|hk
      .exact Nc (by simp[hk])
      .exact wk b hk (by simp)
     .exact Nc (by simp[hk])
    .rcases a1A.1 hk with hk|hk
     .rcases a1A.1 hk with hk|hk
      .exact .inl (by simp[hk])
      .exact .inr (Gp h (o3 k hk))
     .exact .inl (by simp[hk]))
   exact Cq bl k1 k2
 case h_5 T l cc bl =>
  split at hq
  case h_2=>cases hq
  case h_1 d τ b e hd hT =>
  split at hq
  case h_2=>cases hq
  case h_1 sY =>
  have a0q:d<50:=by
   simp only[a1z] at sY
   simpa [Nat.blt_eq] using sY.2
  split at hq
  case h_2=>cases hq
  case h_1 n m hn hm =>
  simp only[a1w,a1y] at hq
  obtain⟨rfl,rfl⟩:=hq
  have hl:=bf h l
  have hc:=bf h cc
  rw[hn] at hl
  rw[hm] at hc
  obtain⟨hl,_⟩:=hl
  obtain⟨hc,_⟩:=hc
  simp only[a1C,a1H] at hl hc
  obtain⟨v1,v2,v3,v4⟩:=Jz fi
  obtain⟨h1,_,i,z,h3,h4,h5,h6,h7⟩:=hE.slice hT
  have Xs:=WO (c:=c) (G:=G) (s:=s) (w:=w.alloc (.cells (madeCells z.cells (m.toNat * i.size)) e)) h7
  have Ua:=Ow.length _ Xs
  rw[Ty.cK,a2y] at Ua
  have hr:=run_make (P:=c.P) w T e i z h1 h3 h6 .i64 .i64 n m v1 v2 (by rw[h5];omega) (by omega)
  have hI:=bc.alloc (Ib h d) (.cells (madeCells z.cells (m.toNat * i.size)) e)
  have rZ:(s.gone d).ae d=none:=by rw[zG,a1S rfl]
  obtain⟨r1,r2⟩:=hI.Mr rZ
  have lJ:bV (w.alloc (.cells (madeCells z.cells (m.toNat * i.size)) e)) ((List.replicate n.toNat τ.zero).map τ.aT) (madeCells z.cells (m.toNat * i.size)).toList []:=by
   rw[a5A]
   have hle:n.toNat * z.cells.size<=m.toNat * i.size:=by rw[h4,Ua];exact a3A _ (by omega)
   have:=bV.more _ ((madeCells z.cells (m.toNat * i.size)).toList.drop (n.toNat * z.cells.size)) (D7 Xs n.toNat)
   rwa [<-AK _ _ _ hle,a3c] at this
  have R4:jH (w.alloc (.cells (madeCells z.cells (m.toNat * i.size)) e)) (.tuple (.slice (some ⟨w.heap.size,0,none⟩) n.toNat m.toNat::(madeCells z.cells (m.toNat * i.size)).toList).toArray) τ (List.replicate n.toNat τ.zero) [w.heap.size] :=
   ⟨_,_,some ⟨w.heap.size,0,none⟩,m.toNat,rfl,by simp,by simp;omega,by simp only[maxLen];omega,by simp;omega, .inr ⟨w.heap.size,[],e,rfl,rfl,by simpa using heap_alloc_new w (.cells (madeCells z.cells (m.toNat * i.size)) e),by simp[madeCells,h4],lJ⟩⟩
  have hN:=hI.Mn d τ (List.replicate n.toNat τ.zero) _ [w.heap.size] rZ r1 r2 (by
   cases hr:c.R d with
   | none=>rfl
   | some v=>exact absurd (h.kd d v hr).1 (Nat.not_le.2 a0q)) R4 (by simp) (λ k hk=>by
   simp only[a2g] at hk
   subst hk
   have hg:=Ib h d
   refine⟨.inl h.aQ.size,λ hs=>a3U _ (h.ed _ hs),by simp,λ i o cr qT=>?_,λ j mD oH hj oT=>?_⟩
   .exact a3U _ (hg.place i o _ cr qT).2.2
   .exact a3U _ (hg.aI.pl j mD oH _ hj oT).2.2.1)
  unfold Oper.wp
  have cH:(execOp a.eval o).run c.P w = .ok (.value (.slice (some ⟨w.heap.size,0,none⟩) n.toNat m.toNat)) (w.alloc (.cells (madeCells z.cells (m.toNat * i.size)) e)):=by
   simp only[execOp,bl,hl,hc,a2h,hr,a1U,a2i]
  rw[cH]
  have key:=bc.put (d:=some d) (v := .aq d) (x := .slice (some ⟨w.heap.size,0,none⟩) n.toNat m.toNat) hN ⟨by simp[cp],_,by simp;rfl,_,_,_,rfl⟩
  have cu:ag.ae { ar:=(s.gone d).ar.set d (.aq d),aC:=(d, .aq τ (List.replicate n.toNat τ.zero))::(s.gone d).aC }=λ i=>if i=d then some (.aq τ (List.replicate n.toNat τ.zero)) else (s.gone d).ae i:=by
   funext i
   exact dM _ _ _ _
  have conv:∀ G',bc c G' (lN (s.gone d).ar.length (s.gone d).sl (some d) (.aq d)) (s.gone d).ar.length (λ i=>if i=d then some (.aq τ (List.replicate n.toNat τ.zero)) else (s.gone d).ae i) (a.put (some d) (.slice (some ⟨w.heap.size,0,none⟩) n.toNat m.toNat)) (w.alloc (.cells (madeCells z.cells (m.toNat * i.size)) e))->Inv c G' { ar:=(s.gone d).ar.set d (.aq d),aC:=(d, .aq τ (List.replicate n.toNat τ.zero))::(s.gone d).aC } (a.put o.dst (.slice (some ⟨w.heap.size,0,none⟩) n.toNat m.toNat)) (w.alloc (.cells (madeCells z.cells (m.toNat * i.size)) e)):=by
   intro G' hh
   unfold Inv
   rw[cu,hd,show ag.sl { ar:=(s.gone d).ar.set d (.aq d),aC:=(d, .aq τ (List.replicate n.toNat τ.zero))::(s.gone d).aC }=lN (s.gone d).ar.length (s.gone d).sl (some d) (.aq d) from rD _ d _ _,
    show ({ ar:=(s.gone d).ar.set d (.aq d),aC:=(d, .aq τ (List.replicate n.toNat τ.zero))::(s.gone d).aC }:ag).ar.length=(s.gone d).ar.length from by simp]
   exact hh
  exact⟨_,conv _ key⟩
 case h_6 cl bl =>
  split at hq
  case h_1 ku =>
   split at hq
   case h_2=>cases hq
   case h_1 T id O7 zC =>
   split at hq
   case h_2=>cases hq
   case h_1 t r _ τ xs hT aN =>
   simp only[a1w,a1y] at hq
   obtain⟨rfl,rfl⟩:=hq
   have e7:=aJ.pI (bf h) cl.args.toList
   rw[zC] at e7
   match oX:cl.args.toList.map a.eval,e7 with
   | [x],e7 =>
    obtain⟨_,l,fB,ad,m,cap,Dw⟩:=e7.1
    have hm:m=xs.length/\xs.length<=140737488355328:=by
     obtain⟨v0,l0,a1,ND,q1,q2,_,_,q5,_⟩:=h.aI.tr id τ xs aN
     rw[fB,Dw] at q1
     simp only[a2X] at q1
     have q1:(Value.slice ad m cap::l)=v0::l0:=congrArg Array.toList q1
     simp only[a1C] at q1
     rw[q2] at q1
     simp only[a3o] at q1
     exact⟨q1.1.2.1,q5⟩
    obtain⟨rfl,hmx⟩:=hm
    have GA:cl.argTypes = #[T]:=by rw[<-a2G (xs:=cl.argTypes),O7]
    have GR:cl.args.map a.eval = #[x]:=by rw[<-a2G (xs:=cl.args.map a.eval),a3H,oX]
    have zz:(execOp a.eval o)=(do let d <-resolve a.eval cl o.type;invoke d.target d.args):=by simp[execOp,bl]
    have Js:(execOp a.eval o).run c.P w=((Builtin.len_ #[T] o.type #[x]).run c.P w).andThen λ v w => .ok (.value v) w:=by
     rw[zz]
     simp[resolve,ku,invoke,builtin,GA,GR]
    obtain⟨k1,_,_⟩:=hE.slice hT
    have QC:∃ q,c.P.elem T=q/\c.P.underlying T=some (.slice q):=⟨_,by simp[Program.elem,k1],k1⟩
    obtain⟨q,QC,k1⟩:=QC
    refine Cm h (x := .int .i64 xs.length) ?_ (Ho ⟨by omega,by omega⟩)
    rw[Js,Dw,run_len_slice w T o.type ad xs.length cap (by rw[QC];exact k1)]
    rfl
  case h_2 f ku =>
   split at hq
   case h_2=>cases hq
   case h_1 d hd =>
   split at hq
   case h_2=>cases hq
   split at hq
   case h_1 m hm =>
    have cH:∀ x y:Value,cl.args.toList.map a.eval=[x,y]->lF c.P f->(execOp a.eval o).run c.P w = .ok (.enter f [x,y].toArray) w:=λ x y hxy oU=>by
     rw[<-hxy];exact ji bl ku rfl oU
    unfold Tm at hq
    split at hq
    case h_1 id k e7 =>
     split at hq
     case h_2=>cases hq
     case h_1 τ xs aN =>
     split at hq
     case h_2=>cases hq
     case h_1 x hx =>
     split at hq
     case h_2=>cases hq
     case h_1 cT yq =>
     simp only[a1w,a1y] at hq
     obtain⟨rfl,rfl⟩:=hq
     obtain⟨v,z,e1,e2,e3⟩:=Kw h e7
     obtain⟨DG,g⟩:=m
     have ex:=TV.aX hx
     have et:Ty.slice τ=DG:=congrArg TV.τ ex
     subst et
     cases ex
     have ex':=TV.aX yq
     have V5:(g xs k).2.1=cT:=by cases ex';rfl
     have:=J8 hE h hm aN e2 e3 fi hd (cH v z e1) (Q:=Q)
     rw[<-V5]
     exact this
    case h_2 id i off sz k e7 =>
     split at hq
     case h_2=>cases hq
     case h_1 τ xs aN =>
     split at hq
     case h_2=>cases hq
     case h_1 u hu =>
     split at hq
     case h_2=>cases hq
     case h_1 x hx hb =>
     split at hq
     case h_2=>cases hq
     case h_1 y hy =>
     simp only[a1w,a1y] at hq
     obtain⟨rfl,rfl⟩:=hq
     simp only[a1z,a2k] at hb
     obtain⟨zx,ET,LH⟩:=hb
     have zx:=a1x zx
     subst zx
     obtain⟨v,z,e1,e2,e3⟩:=Kw h e7
     exact Mf hE h hm aN hu hx ET (by simpa [Nat.blt_eq] using LH) hy e2 e3 fi hd (cH v z e1)
    case h_3 cs k e7 =>
     split at hq
     case h_2=>cases hq
     case h_1 x ids ht =>
     split at hq
     case h_2=>cases hq
     case h_1 hb =>
     simp only[a1w,a1y] at hq
     obtain⟨rfl,rfl⟩:=hq
     simp only[a1z,a2e] at hb
     obtain⟨v,z,e1,e2,e3⟩:=Kw h e7
     exact Md hE h hm ht (cY hb.1) hb.2 e2 e3 fi hd (cH v z e1)
    case h_4=>cases hq
   case h_2 hm =>
    split at hq
    case h_2=>cases hq
    case h_1 Z9 has =>
    split at hq
    case h_2=>cases hq
    case h_1 pre res hc =>
    split at hq
    case h_2=>cases hq
    case h_1 hb =>
    simp only[a1w,a1y] at hq
    obtain⟨rfl,rfl⟩:=hq
    simp only[a1z,a2e] at hb
    exact MA hE h has (aJ.pI (bf h) cl.args.toList) hc fi hd (λ p hp=>by simpa using hb.1 p hp) (cY hb.2) (by omega) (λ oU=>ji bl ku rfl oU)
  case h_3=>cases hq
 case h_7=>cases hq
end
end Go.Proofs.YtaaamahdcpcofaaDoor

namespace Go.Proofs.YtaaamahdcpcofaaDoor
section
variable {w:World}
theorem bV.join{n:Nat}:∀ (ds:List D) {l:List Value} {fp:List Nat},bV w ds l fp->(∀ d∈ds,d.size=n) ->
  ds.length * n<=l.length/\∀ (es:List D) (m:List Value) (f2:List Nat),bV w es m f2->bV w (ds++es) (l.take (ds.length * n)++m) (fp++f2)
 | [],l,fp,h,_=>by
  have h:fp=[]:=h
  subst h
  exact⟨by simp,λ es m f2 k=>by simpa using k⟩
 | d::ds,l,fp,h,hn=>by
  obtain⟨c,r,f1,f2,rfl,rfl,h3,h4⟩:=h
  have hc:c.length=n:=by rw[Ow.length d h3];exact hn d (by simp)
  obtain⟨k1,k2⟩:=bV.join ds h4 λ d hd=>hn d (by simp[hd])
  have e:(d::ds).length * n=c.length+ds.length * n:=by rw[a1M,a2C,hc];omega
  refine⟨by rw[e,a1T];omega,λ es m f3 k=>?_⟩
  refine⟨c,r.take (ds.length * n)++m,f1,f2++f3,?_,by simp,h3,k2 es m f3 k⟩
  rw[e,xF,a2t]
theorem bV.rdL{n:Nat}:∀ (ds:List D) {l:List Value} {fp:List Nat},bV w ds l fp->(∀ d∈ds,d.size=n)->fJ w (λ _=>True) ds (l.take (ds.length * n))
 | [],l,fp,h,_=>by simp[fJ]
 | d::ds,l,fp,h,hn=>by
  obtain⟨c,r,f1,f2,rfl,rfl,h3,h4⟩:=h
  have hc:c.length=n:=by rw[Ow.length d h3];exact hn d (by simp)
  have e:(d::ds).length * n=c.length+ds.length * n:=by rw[a1M,a2C,hc];omega
  exact⟨c,r.take (ds.length * n),by rw[e,xF],Ow.rd d h3 λ _ _=>trivial,bV.rdL ds h4 λ d hd=>hn d (by simp[hd])⟩
theorem E8{τ:Ty}(xs:List τ.den):∀ d∈xs.map τ.aT,d.size=τ.size:=by
 intro d hd
 obtain⟨z,_,rfl⟩:=a1D.1 hd
 exact Ty.cK τ z
theorem Jl{g k:Nat}{l:List Value}{t:TypeId}(h:w.heap[g]?=some (.cells l.toArray t (0,0))):∀ j v,(l.take k)[j]?=some v->w.cell? ((⟨g,0,none⟩:Addr).add j)=some v:=by
 intro j v hj
 rw[a3v]
 have:=Bu (w:=w) (b:=g) (p:=[]) (c:=l.take k) (r:=l.drop k) (t:=t) (by simpa using h) j v hj
 simpa using this
theorem Ht{P:Program}(t ty e:TypeId)(i:TypeInfo)(ht:P.underlying t=some (.slice e))(hi:P.info? e=some i)
  (g MJ WG:Nat) (cur:Array Value) (t2:TypeId) (hg:w.heap[g]?=some (.cells cur t2 (0,0)))
  (a:Addr) (m c:Nat) (news:List Value) (hl:news.length=m * i.size) (LN:∀ j u,news[j]?=some u->w.cell? (a.add j)=some u) (h1:∀ u∈news,u.oneCell'=true)
  (zA:MJ+m<=WG) (BM:MJ * i.size+news.length<=cur.size) :
  (Builtin.append_ #[t,t] ty #[.slice (some ⟨g,0,none⟩) MJ WG, .slice (some a) m c]).run P w =
   .ok (.slice (some ⟨g,0,none⟩) (MJ+m) WG) (w.setRow g (cur.toList.take (MJ * i.size)++news++cur.toList.drop (MJ * i.size+news.length)).toArray):=by
 have hf:=run_firstCells_some (P:=P) w i.size m a m c news hl LN
 have cy:=run_storeCells_at P g (MJ * i.size) t2 news 0 cur w hg (by simpa using BM) h1
 simp only[a3w] at cy
 simp[Builtin.append_,a2w ht,sizeOf,typeInfo,hi,Builtin.lenOf,zA,hf,a3v,cy]
theorem NV{τ:Ty}{zs:List τ.den}{q:List Value}{fp:List Nat}{z:Array Value}{cap:Nat}{e:TypeId}(hq:bV w (zs.map τ.aT) q fp)(Zm:q.length=zs.length * τ.size)(Sm:z.size=τ.size)
  (hc:zs.length<=cap) (hm:cap<=maxLen) (h47:zs.length<=140737488355328) (bC:∀ b∈fp,b<w.heap.size) :
  jH (w.drew.alloc (.cells (q.toArray++Builtin.zeroCells z (cap - zs.length)) e)) (.tuple (.slice (some ⟨w.heap.size,0,none⟩) zs.length cap::(q.toArray++Builtin.zeroCells z (cap - zs.length)).toList).toArray) τ zs (w.heap.size::fp):=by
 refine⟨_,_,some ⟨w.heap.size,0,none⟩,cap,rfl,rfl,hc,hm,h47, .inr ⟨w.heap.size,fp,e,rfl,rfl,?_,?_,?_⟩⟩
 .rw[a2G]
  exact a4b w.drew _
 .simp only[a5w,a1T,Zm,a2y,size_zeroCells,Sm]
  rw[<-a2C]
  congr 1
  omega
 .rw[a5w]
  have hk:∀ b∈fp,(w.drew.alloc (.cells (q.toArray++Builtin.zeroCells z (cap - zs.length)) e)).heap[b]?=w.heap[b]?:=λ b hb=>a5k w.drew _ b (bC b hb)
  have:=bV.aQ _ hq hk
  have more:∀ (ds:List D) {l:List Value} {f:List Nat} (m:List Value),bV (w.drew.alloc (.cells (q.toArray++Builtin.zeroCells z (cap - zs.length)) e)) ds l f->bV (w.drew.alloc (.cells (q.toArray++Builtin.zeroCells z (cap - zs.length)) e)) ds (l++m) f:=by
   intro ds
   induction ds with
   | nil=>intro l f m h;exact h
   | cons d ds ih =>
    intro l f m h
    obtain⟨cc,r,f1,f2,rfl,hf,h3,h4⟩:=h
    exact⟨cc,r++m,f1,f2,by simp,hf,h3,ih m h4⟩
  exact more _ _ this
end
section
variable {c:Ctx} {G:Gh} {sl:Nat->AV} {n:Nat} {lk:Nat->Option au} {a:Act} {w w':World}
theorem OL(hE:bD c.P c.E){T:TypeId}{τ:Ty}{b e:Nat}(hT:ae c.E.ty T=some (.slice τ,b,e)){xs ys:List τ.den}{x y:Value}{fx fy:List Nat}
  (hx:Ow w (.slice τ.size (xs.map τ.aT)) [x] fx) (hy:Ow w (.slice τ.size (ys.map τ.aT)) [y] fy) (hlx:∀ k∈fx,k<w.heap.size) (Zc:∀ k∈fy,k<w.heap.size) (QL:fx.Nodup) (Xj:fy.Nodup) (hd:∀ k∈fx,k∉fy)
  (zA:fI (xs.length+ys.length) b) (ty:TypeId) :
  ∃ v' w' fp l,(Builtin.append_ #[T,T] ty #[x,y]).run c.P w = .ok v' w'/\jH w' (.tuple (v'::l).toArray) τ (xs++ys) fp/\(∃ a n m,v' = .slice a n m)/\fp.Nodup/\(∀ k∈fp,k∈fx\/k∈fy\/(w.heap.size<=k/\k<w'.heap.size))/\cP (λ k=>k∈fx) w w':=by
 obtain⟨k1,⟨b',e',k2⟩,i,zv,k3,k4,k5,k6,k7⟩:=hE.slice hT
 have Sm:zv.cells.size=τ.size:=by
  have:=Rd.length _ (HM (w:=w) (S:=λ _=>True) k7)
  rwa [Ty.cK,a2y] at this
 have GO:=τ.size_pos
 have J2:(xs.length+ys.length) * b<=140737488355328/\xs.length+ys.length<=140737488355328:=by
  unfold fI at zA
  rw[Nat.mul_add,Nat.mul_one] at zA
  omega
 have GL:xs.length+ys.length<=maxLen:=by simp only[maxLen];omega
 obtain⟨lx,hxT,_⟩:=jH.Py hx
 have T9:=hx
 obtain⟨ax,DN,x1,x2,x3,x4,x5⟩:=hx
 obtain⟨ay,Qh,y1,y2,y3,y4,y5⟩:=hy
 simp only[a1C,a1H,a2J] at x1 x2 x4 y1 y2 y4
 subst x1 y1
 have same:(Builtin.append_ #[T,T] ty #[.slice ax xs.length DN, .slice ay ys.length Qh]).run c.P w = .ok (.slice ax xs.length DN) w->ys=[]->∃ v' w' fp l,(Builtin.append_ #[T,T] ty #[.slice ax xs.length DN, .slice ay ys.length Qh]).run c.P w = .ok v' w'/\jH w' (.tuple (v'::l).toArray) τ (xs++ys) fp/\(∃ a n m,v' = .slice a n m)/\fp.Nodup/\(∀ k∈fp,k∈fx\/k∈fy\/(w.heap.size<=k/\k<w'.heap.size))/\cP (λ k=>k∈fx) w w':=by
  intro hr he
  subst he
  exact⟨_,w,fx,lx,hr,by simpa using hxT,⟨_,_,_,rfl⟩,QL,λ k hk => .inl hk,cP.refl _ _⟩
 rcases y5 with ⟨q1,⟨q2,q3⟩,q4⟩|⟨gy,f2,l2,t2,q1,q2,q3,q4,q5⟩
 .have L1:ys=[]:=by simpa using q1
  subst L1
  refine same ?_ rfl
  subst q2
  simp[Builtin.append_,a2w k1,sizeOf,typeInfo,k3,Builtin.lenOf,Builtin.firstCells,x2,storeCells]
  cases ax<;>rfl
 .subst q1 q2
  have Zr:=E8 ys
  obtain⟨j1,_⟩:=bV.join _ q5 Zr
  rw[a2J] at j1
  have AU:(l2.take (ys.length * τ.size)).length=ys.length * τ.size:=by rw[a3f];omega
  have BQ:∀ u∈l2.take (ys.length * τ.size),u.oneCell'=true:=by
   have:=bV.rdL _ q5 Zr
   rw[a2J] at this
   exact fJ.sq this
  have LN:=Jl (w:=w) (k:=ys.length * τ.size) q3
  have V7:bV w (ys.map τ.aT) (l2.take (ys.length * τ.size)) f2:=by
   have:=(bV.join _ q5 Zr).2 [] [] [] rfl
   simpa using this
  rcases x5 with ⟨p1,⟨p2,p3⟩,p4⟩|⟨gx,f1,l1,t1,p1,p2,p3,p4,p5⟩
  .have oX:xs=[]:=by simpa using p1
   subst oX p2 p3 p4
   by_cases hm:ys=[]
   .refine same ?_ hm
    subst hm
    simp[Builtin.append_,a2w k1,sizeOf,typeInfo,k3,Builtin.lenOf,Builtin.firstCells,loadCells,loadCellsFrom]
   .have Zd:0<ys.length:=List.length_pos_iff.2 hm
    have hr:=run_append_nil (P:=c.P) w T ty e i zv k1 k3 k6 ⟨gy,0,none⟩ ys.length Qh (l2.take (ys.length * τ.size)) (by rw[AU,k4]) LN Zd (by omega) (by rw[k5];have:=J2.1;simp only[a2b,a3j] at this;omega)
    have hg:=NV (w:=w) (e:=e) (zs:=ys) (cap:=grownCap w ys.length 0 e) V7 AU Sm (grownCap_ge w ys.length 0 e) (grownCap_le_maxLen w ys.length 0 e (by simpa using GL)) (by omega) (λ k hk=>Zc k (by simp[hk]))
    refine⟨.slice (some ⟨w.heap.size,0,none⟩) ys.length (grownCap w ys.length 0 e),w.drew.alloc (.cells ((l2.take (ys.length * τ.size)).toArray++Builtin.zeroCells zv.cells (grownCap w ys.length 0 e - ys.length)) e),w.heap.size::f2,_,hr,hg,⟨_,_,_,rfl⟩,?_,?_,⟨rfl,rfl,rfl,by simp,λ k hk _=>a5k w.drew _ k hk⟩⟩
    .rw[a2o] at Xj ⊢
     exact⟨λ hh=>a3U _ (Zc _ (by simp[hh])),Xj.2⟩
    .intro k hk
     rcases a1N.1 hk with rfl|hk
     .exact .inr (.inr ⟨a2u _,by simp⟩)
     .exact .inr (.inl (by simp[hk]))
  .subst p1 p2
   have hsx:=E8 xs
   obtain⟨i1,i2⟩:=bV.join _ p5 hsx
   rw[a2J] at i1 i2
   have uj:(l1.take (xs.length * τ.size)).length=xs.length * τ.size:=by rw[a3f];omega
   have LO:(f1++f2).Nodup/\gx∉f1++f2:=by
    rw[a2o] at QL Xj
    refine⟨a1X.2 ⟨QL.2,Xj.2,λ k hk k' oW e=>?_⟩,λ hh=>?_⟩
    .subst e;exact hd k (by simp[hk]) (by simp[oW])
    .rcases a1A.1 hh with hh|hh
     .exact QL.1 hh
     .exact hd gx (by simp) (by simp[hh])
   have lJ:=i2 (ys.map τ.aT) _ f2 V7
   rw[<-a3s] at lJ
   by_cases BM:xs.length+ys.length<=DN
   .have lU:xs.length * i.size+(l2.take (ys.length * τ.size)).length<=l1.toArray.size:=by
     rw[AU,k4,<-a2C,List.size_toArray,p4]
     exact a3A _ BM
    have hr:=Ht (P:=c.P) (w:=w) T ty e i k1 k3 gx xs.length DN l1.toArray t1 p3 ⟨gy,0,none⟩ ys.length Qh (l2.take (ys.length * τ.size)) (by rw[AU,k4]) LN BQ BM lU
    have km:∀ k,k≠gx->(w.setRow gx (l1.toArray.toList.take (xs.length * i.size)++l2.take (ys.length * τ.size)++l1.toArray.toList.drop (xs.length * i.size+(l2.take (ys.length * τ.size)).length)).toArray).heap[k]?=w.heap[k]?:=λ k hk=>om w p3 k hk
    refine⟨_,_,gx::(f1++f2),(l1.take (xs.length * τ.size)++l2.take (ys.length * τ.size)++l1.drop (xs.length * τ.size+ys.length * τ.size)),hr,?_,⟨_,_,_,rfl⟩,a2o.2 ⟨LO.2,LO.1⟩,?_,⟨rfl,rfl,rfl,by simp[World.setRow],λ k hk fP=>km k λ e=>fP (by simp[e])⟩⟩
    .refine⟨_,_,some ⟨gx,0,none⟩,DN,rfl,by simp,by simpa using BM,x3,by simp;omega, .inr ⟨gx,f1++f2,t1,rfl,rfl,?_,?_,?_⟩⟩
     .have:=a5B w gx l1.toArray (l1.toArray.toList.take (xs.length * i.size)++l2.take (ys.length * τ.size)++l1.toArray.toList.drop (xs.length * i.size+(l2.take (ys.length * τ.size)).length)).toArray t1 (0,0) p3
      rw[this,AU,k4]
     .simp only[a1T,uj,AU,a2H,p4]
      have:xs.length * τ.size+ys.length * τ.size<=DN * τ.size:=by rw[<-a2C];exact a3A _ BM
      omega
     .have hk:∀ k∈f1++f2,(w.setRow gx (l1.toArray.toList.take (xs.length * i.size)++l2.take (ys.length * τ.size)++l1.toArray.toList.drop (xs.length * i.size+(l2.take (ys.length * τ.size)).length)).toArray).heap[k]?=w.heap[k]?:=λ k hk=>km k λ e=>LO.2 (e ▸ hk)
      have h2:=bV.aQ _ lJ hk
      have more:∀ (w2:World) (ds:List D) {l:List Value} {f:List Nat} (m:List Value),bV w2 ds l f->bV w2 ds (l++m) f:=by
       intro w2 ds
       induction ds with
       | nil=>intro l f m h;exact h
       | cons d ds ih =>
        intro l f m h
        obtain⟨cc,r,f1,f2,rfl,hf,h3,h4⟩:=h
        exact⟨cc,r++m,f1,f2,by simp,hf,h3,ih m h4⟩
      exact more _ _ _ h2
    .intro k hk
     rcases a1N.1 hk with rfl|hk
     .exact .inl (by simp)
     .rcases a1A.1 hk with hk|hk
      .exact .inl (by simp[hk])
      .exact .inr (.inl (by simp[hk]))
   .have hr:=run_append_grow (P:=c.P) w T ty e i zv k1 k3 k6 ⟨gx,0,none⟩ xs.length DN (l1.take (xs.length * τ.size)) (by rw[uj,k4]) (Jl p3) ⟨gy,0,none⟩ ys.length Qh (l2.take (ys.length * τ.size)) (by rw[AU,k4]) LN (by omega) (by omega) (by rw[k5];exact growslice_fits (by omega) J2.1)
    have Zm:(l1.take (xs.length * τ.size)++l2.take (ys.length * τ.size)).length=(xs++ys).length * τ.size:=by rw[a1T,uj,AU,a1T,a2C]
    have hle:(xs++ys).length=xs.length+ys.length:=a1T
    have bC:∀ k∈f1++f2,k<w.heap.size:=λ k hk=>by
     rcases a1A.1 hk with hk|hk
     .exact hlx k (by simp[hk])
     .exact Zc k (by simp[hk])
    have hg:=NV (w:=w) (e:=e) (zs:=xs++ys) (cap:=grownCap w (xs.length+ys.length) DN e) lJ Zm Sm (by rw[hle];exact grownCap_ge w _ _ e) (grownCap_le_maxLen w _ _ e GL) (by omega) bC
    rw[hle] at hg
    refine⟨_,w.drew.alloc (.cells ((l1.take (xs.length * τ.size)).toArray++(l2.take (ys.length * τ.size)).toArray++Builtin.zeroCells zv.cells (grownCap w (xs.length+ys.length) DN e - (xs.length+ys.length))) e),w.heap.size::(f1++f2),_,hr,by simpa [hle] using hg,⟨_,_,_,rfl⟩,?_,?_,⟨rfl,rfl,rfl,by simp,λ k hk _=>heap_alloc_old w.drew _ k hk⟩⟩
    .exact a2o.2 ⟨λ hh=>a3U _ (bC _ hh),LO.1⟩
    .intro k hk
     rcases a1N.1 hk with rfl|hk
     .exact .inr (.inr ⟨a2u _,by simp⟩)
     .rcases a1A.1 hk with hk|hk
      .exact .inl (by simp[hk])
      .exact .inr (.inl (by simp[hk]))
end
end Go.Proofs.YtaaamahdcpcofaaDoor

namespace Go.Proofs.YtaaamahdcpcofaaDoor
section
variable {c:Ctx} {G:Gh} {s:ag} {a:Act} {w w':World}
theorem Inv.built(h:Inv c G s a w){ids:List Nat}{d:Nat}{τ:Ty}{zs:List τ.den}{fp:List Nat}{v':Value}{l:List Value}(hk:cP (λ b=>tY G s.ae ids b) w w')(hT:jH w' (.tuple (v'::l).toArray) τ zs fp)
  (hv:∃ a n m,v' = .slice a n m) (dq:fp.Nodup) (qW:∀ b∈fp,tY G s.ae ids b\/(w.heap.size<=b/\b<w'.heap.size)) (rZ:(ids.foldl ag.gone s).ae (bM d)=none) :
  ∃ G',Inv c G' ((ids.foldl ag.gone s).sO d τ zs) (a.put (some d) v') w':=by
 have h1:Inv c G (ids.foldl ag.gone s) a w:=uL ids h
 have hF:∀ b,tY G s.ae ids b->tX c G (ids.foldl ag.gone s).ae w b:=λ b hb=>Gp h hb
 generalize Sg:ids.foldl ag.gone s=s1 at *
 have kY:∀ b,b<w.heap.size->¬ tY G s.ae ids b->w'.heap[b]?=w.heap[b]?:=λ b hb hn=>hk.block b hb hn
 have h2:bc c G s1.sl s1.ar.length s1.ae a w':=by
  refine bc.world (S':=G.S) h1 ⟨hk.os,hk.tape,hk.output,hk.size,λ b hb hn=>kY b hb λ hi=>hn (hF b hi).1⟩ (λ _ h=>h) (λ _ _=>a3G) h1.sX (λ b hb=>a2c (h1.ed b hb) hk.size) ?_ ?_ ?_
  .intro b hb
   rcases hb with hb|hb
   .exact kY b (h1.ed b hb) λ hi=>(hF b hi).2.1 hb
   .exact kY b (a2c hb.1 h1.aQ.size) λ hi=>(hF b hi).1.elim (λ q=>by omega) hb.2.1
  .intro id o b ho hb
   exact kY b (h1.place id o b ho hb).2.2 λ hi=>(hF b hi).2.2.2.1 id o ho hb
  .intro id aV cT b ht hb
   exact kY b (h1.aI.pl id aV cT b ht hb).2.2.1 λ hi=>(hF b hi).2.2.2.2 id aV cT ht hb
 obtain⟨r1,r2⟩:=h2.Mr rZ
 have hR:c.R (bM d)=none:=by
  cases hr:c.R (bM d) with
  | none=>rfl
  | some v=>have:=(h.kd _ v hr).2;unfold bM at this;omega
 have h3:=h2.Mn (bM d) τ zs _ fp rZ r1 r2 hR hT dq (λ b hb=>by
  rcases qW b hb with hi|⟨q1,q2⟩
  .obtain⟨f1,f2,f3,f4,f5⟩:=hF b hi
   exact⟨f1,f2,a2c f3 hk.size,f4,f5⟩
  .refine⟨.inl (a4a h1.aQ.size q1),λ hs=>?_,q2,λ i o cr qT=>?_,λ j mD oH hj oT=>?_⟩
   .have:=h1.ed b hs;omega
   .have:=(h1.place i o b cr qT).2.2;omega
   .have:=(h1.aI.pl j mD oH b hj oT).2.2.1;omega)
 have key:=bc.put (d:=some d) (v := .aq (bM d)) (x:=v') h3 ⟨by simp[cp],l,by simp,hv⟩
 have cu:(s1.sO d τ zs).ae=λ i=>if i=bM d then some (.aq τ zs) else s1.ae i:=by
  funext i
  exact dM _ _ _ _
 have conv:∀ G',bc c G' (lN s1.ar.length s1.sl (some d) (.aq (bM d))) s1.ar.length (λ i=>if i=bM d then some (.aq τ zs) else s1.ae i) (a.put (some d) v') w'->Inv c G' (s1.sO d τ zs) (a.put (some d) v') w':=by
  intro G' hh
  unfold Inv
  rw[cu,show (s1.sO d τ zs).sl=lN s1.ar.length s1.sl (some d) (.aq (bM d)) from rD _ d _ _,show (s1.sO d τ zs).ar.length=s1.ar.length from by simp[ag.sO]]
  exact hh
 exact⟨_,conv _ key⟩
theorem Inv.over{s1:ag}{X:Nat->Prop}(h1:Inv c G s1 a w)(hF:∀ b,X b->tX c G s1.ae w b)(hk:cP X w w'):bc c G s1.sl s1.ar.length s1.ae a w':=by
 have kY:∀ b,b<w.heap.size->¬ X b->w'.heap[b]?=w.heap[b]?:=λ b hb hn=>hk.block b hb hn
 refine bc.world (S':=G.S) h1 ⟨hk.os,hk.tape,hk.output,hk.size,λ b hb hn=>kY b hb λ hi=>hn (hF b hi).1⟩ (λ _ h=>h) (λ _ _=>a3G) h1.sX (λ b hb=>a2c (h1.ed b hb) hk.size) ?_ ?_ ?_
 .intro b hb
  rcases hb with hb|hb
  .exact kY b (h1.ed b hb) λ hi=>(hF b hi).2.1 hb
  .exact kY b (a2c hb.1 h1.aQ.size) λ hi=>(hF b hi).1.elim (λ q=>by omega) hb.2.1
 .intro id o b ho hb
  exact kY b (h1.place id o b ho hb).2.2 λ hi=>(hF b hi).2.2.2.1 id o ho hb
 .intro id aV cT b ht hb
  exact kY b (h1.aI.pl id aV cT b ht hb).2.2.1 λ hi=>(hF b hi).2.2.2.2 id aV cT ht hb
theorem tX.XD{lk:Nat->Option au}{b:Nat}(h:tX c G lk w b):¬ SX G lk b:=by
 rintro (hb|⟨id,e,τ,ys,aN,hb⟩|⟨id,τ,ys,aN,hb⟩)
 .exact h.2.1 hb
 .exact h.2.2.2.1 id _ aN hb
 .exact h.2.2.2.2 id τ ys aN hb
theorem vx(h:Inv c G s a w):∀ {fl:List Bool} {Ts:List TypeId} {vs:List AV} {xs:List Value} {own:List (Option TV)} {ids:List Nat},iZ c.E s.ae fl Ts vs=some (own,ids)->ids.Nodup->aJ (VR c G s.ae w) vs xs ->
  ∃ xa:List (List Nat),aJ (λ (o:Option TV) (q:Value×List Nat)=>match o with
   | some v=>xQ w v q.1 q.2
   | none=>q.2=[]) own (xs.zip xa)/\xa.length=xs.length/\xa.flatten.Nodup/\∀ b∈xa.flatten,tY G s.ae ids b
 | [],[],[],[],own,ids,ht,_,_=>by
  simp only[iZ,a1w,a1y] at ht
  obtain⟨rfl,rfl⟩:=ht
  exact⟨[],trivial,rfl,by simp,by simp⟩
 | true::fl,T::Ts,v::vs,x::xs,own,ids,ht,hn,hv=>by
  simp only[iZ] at ht
  split at ht
  case h_2=>cases ht
  case h_1 τ q hT =>
  split at ht
  case h_2=>cases ht
  case h_1 y i hy =>
  split at ht
  case h_2=>cases ht
  case h_1 r j hr =>
  simp only[a1w,a1y] at ht
  obtain⟨rfl,rfl⟩:=ht
  rw[a1X] at hn
  obtain⟨n1,n2,n3⟩:=hn
  obtain⟨f1,o1,o2,o3⟩:=nV h hy hv.1 n1
  obtain⟨xa,p1,p2,p3,p4⟩:=vx h hr n2 hv.2
  refine⟨f1::xa,⟨o1,p1⟩,by simp[p2],?_,?_⟩
  .rw[List.flatten_cons]
   exact eQ o2 p3 λ b hb cm=>h.kp (o3 b hb) (p4 b cm) (λ x hx y hy=>n3 x hx y hy)
  .intro b hb
   rw[List.flatten_cons] at hb
   rcases a1A.1 hb with hb|hb
   .exact (o3 b hb).mono λ i hi=>by simp[hi]
   .exact (p4 b hb).mono λ i hi=>by simp[hi]
 | false::fl,T::Ts,v::vs,x::xs,own,ids,ht,hn,hv=>by
  simp only[iZ] at ht
  split at ht
  case h_2=>cases ht
  case h_1 r j hr =>
  simp only[a1w,a1y] at ht
  obtain⟨rfl,rfl⟩:=ht
  obtain⟨xa,p1,p2,p3,p4⟩:=vx h hr hn hv.2
  exact⟨[]::xa,⟨rfl,p1⟩,by simp[p2],by simpa using p3,by simpa using p4⟩
 | [],_::_,_,_,_,_,ht,_,_=>by simp[iZ] at ht
 | [],[],_::_,_,_,_,ht,_,_=>by simp[iZ] at ht
 | [],[],[],_::_,_,_,_,_,hv=>hv.elim
 | true::_,[],_,_,_,_,ht,_,_=>by simp[iZ] at ht
 | false::_,[],_,_,_,_,ht,_,_=>by simp[iZ] at ht
 | true::_,_::_,[],_,_,_,ht,_,_=>by simp[iZ] at ht
 | false::_,_::_,[],_,_,_,ht,_,_=>by simp[iZ] at ht
 | _,_,_::_,[],_,_,_,_,hv=>hv.elim
theorem tF(hE:bD c.P c.E)(h:Inv c G s a w):∀ {own:List (Option TV)} {Ts:List TypeId} {vs:List AV} {xs:List Value} {xa:List (List Nat)} {Z9:List Arg},gJ c.E s.ae own Ts vs=some Z9 ->
  aJ (λ (o:Option TV) (q:Value×List Nat)=>match o with
   | some v=>xQ w v q.1 q.2
   | none=>q.2=[]) own (xs.zip xa)->xa.length=xs.length->aJ (VR c G s.ae w) vs xs->tw c.P w (SX G s.ae) Z9 xs xa.flatten/\∀ a∈Z9,a.Fu=true
 | [],[],[],[],xa,Z9,hm,hO,hl,hv=>by
  simp only[gJ,a1w] at hm
  subst hm
  have:xa=[]:=List.eq_nil_of_length_eq_zero (by simpa using hl)
  subst this
  exact⟨rfl,by simp⟩
 | some y::own,T::Ts,v::vs,x::xs,f::xa,Z9,hm,hO,hl,hv=>by
  simp only[gJ] at hm
  split at hm
  case h_2=>cases hm
  case h_1 r hr =>
  simp only[a1w] at hm
  subst hm
  obtain⟨q1,q2⟩:=tF hE h hr hO.2 (by simpa using hl) hv.2
  refine⟨⟨f,xa.flatten,by simp,hO.1,q1⟩,λ a ha=>?_⟩
  rcases a1N.1 ha with rfl|ha
  .rfl
  .exact q2 a ha
 | none::own,T::Ts,v::vs,x::xs,f::xa,Z9,hm,hO,hl,hv=>by
  simp only[gJ] at hm
  split at hm
  case h_2=>cases hm
  case h_1 y hy =>
  split at hm
  case h_2=>cases hm
  case h_1 r Jv hr =>
  simp only[a1w] at hm
  subst hm
  obtain⟨q1,q2⟩:=tF hE h hr hO.2 (by simpa using hl) hv.2
  have hf:f=[]:=hO.1
  subst hf
  have h1:=jI hE h (λ _ _ h=>h) (λ _ h => .inl h) (λ τ v x y h1 h2=>yZ h.aI h.aC (λ _ _ h=>h) h1 h2) (Ts:=[T]) (vs:=[v]) (Z9:=[y]) (xs:=[x]) (by simp only[nX,hy]) ⟨hv.1,trivial⟩
  refine⟨⟨[],xa.flatten,by simp,?_,q1⟩,λ a ha=>?_⟩
  .have h1:=h1.1
   cases y with
   | own v=>exact h1.elim
   | box k=>exact h1.elim
   | _=>exact⟨rfl,h1⟩
  .rcases a1N.1 ha with rfl|ha
   .exact Jv
   .exact q2 a ha
 | [],[],[],_::_,_,_,_,_,_,hv=>hv.elim
 | _,_,_::_,[],_,_,_,_,_,hv=>hv.elim
 | [],_::_,_,_,_,_,hm,_,_,_=>by simp[gJ] at hm
 | [],[],_::_,_,_,_,hm,_,_,_=>by simp[gJ] at hm
 | some _::_,[],_,_,_,_,hm,_,_,_=>by simp[gJ] at hm
 | none::_,[],_,_,_,_,hm,_,_,_=>by simp[gJ] at hm
 | some _::_,_::_,[],_,_,_,hm,_,_,_=>by simp[gJ] at hm
 | none::_,_::_,[],_,_,_,hm,_,_,_=>by simp[gJ] at hm
 | _::_,_::_,_::_,_::_,[],_,_,_,hl,_=>by simp at hl
theorem MS{lk:Nat->Option au}{τ:Ty}:∀ {ps:List (Nat×AV)} {n:Nat} {xs:List τ.den} {ids:List Nat},Ct lk τ n ps=some (xs,ids)->xs.length=ps.length
 | [],n,xs,ids,h=>by
  simp only[Ct,a1w,a1y] at h
  obtain⟨rfl,_⟩:=h;rfl
 | (i,v)::ps,n,xs,ids,h=>by
  simp only[Ct] at h
  split at h
  .split at h
   .split at h
    .rename_i q
     simp only[a1w,a1y] at h
     obtain⟨rfl,_⟩:=h
     simp[MS q]
    .cases h
   .cases h
  .cases h
theorem JL(h:Inv c G s a w){τ:Ty}{place:Nat->Option (Nat×Nat)}(hp:∀ i,place i=some (i * τ.size,τ.size)) :
  ∀ {ps:List (Nat×AV)} {vs:List (Nat×Value)} {n:Nat} {xs:List τ.den} {ids:List Nat} {l:List Value},Ct s.ae τ n ps=some (xs,ids)->aJ (λ p q=>p.1=q.1/\VR c G s.ae w p.2 q.2) ps vs->ids.Nodup ->
   (n+ps.length) * τ.size=l.length->∃ r fp,Instr.fill place l.toArray vs=some (l.take (n * τ.size)++r).toArray/\bV w (xs.map τ.aT) r fp/\r.length=xs.length * τ.size/\fp.Nodup/\∀ b∈fp,tY G s.ae ids b
 | [],[],n,xs,ids,l,h1,_,_,hl=>by
  simp only[Ct,a1w,a1y] at h1
  obtain⟨rfl,rfl⟩:=h1
  refine⟨[],[],?_,rfl,by simp,a2L,by simp⟩
  simp only[a2b,a3w] at hl
  rw[hl,a4W,a2O]
  rfl
 | (i,v)::ps,(j,x)::vs,n,xs,ids,l,h1,hv,dq,hl=>by
  obtain⟨⟨yo,hx⟩,LW⟩:=hv
  have yo:i=j:=yo
  subst yo
  simp only[Ct] at h1
  split at h1
  .rename_i gQ
   have gQ:=a1x gQ
   subst gQ
   split at h1
   .rename_i y i1 hy
    split at h1
    .rename_i ys js L1
     simp only[a1w,a1y] at h1
     obtain⟨rfl,rfl⟩:=h1
     rw[a1X] at dq
     obtain⟨n1,n2,n3⟩:=dq
     obtain⟨f1,o1,o2,o3⟩:=nV h hy hx n1
     have hr:=xQ.cells o1
     have cj:x.cells.size=τ.size:=by
      have:=Ow.length _ hr
      rw[Ty.cK] at this
      simpa using this
     simp only[a1M] at hl
     have GO:=τ.size_pos
     have e1:(i+(ps.length+1)) * τ.size=i * τ.size+τ.size+ps.length * τ.size:=by
      rw[a2C,a2C];omega
     rw[H9 place i _ _ x vs l (hp i) cj (by omega)]
     obtain⟨r,f2,q1,q2,q3,q4,q5⟩:=JL h hp (l:=l.take (i * τ.size)++x.cells.toList++l.drop (i * τ.size+τ.size)) L1 LW n2 (by
      simp[cj]
      rw[show (i+1+ps.length) * τ.size=i * τ.size+τ.size+ps.length * τ.size by rw[a2C,a2C];omega]
      omega)
     refine⟨x.cells.toList++r,f1++f2,?_,⟨_,_,f1,f2,rfl,rfl,hr,q2⟩,?_,?_,?_⟩
     .rw[q1]
      congr 2
      rw[show (i+1) * τ.size=i * τ.size+τ.size by rw[a2C];omega]
      have ht:(l.take (i * τ.size)++x.cells.toList).length=i * τ.size+τ.size:=by simp[cj];omega
      rw[<-ht,a3F,a2t]
     .simp only[a1T,a1M,a2y,cj,q3,a2C];omega
     .exact eQ o2 q4 λ b hb cm=>h.kp (o3 b hb) (q5 b cm) (λ x hx y hy=>n3 x hx y hy)
     .intro b hb
      rcases a1A.1 hb with hb|hb
      .exact (o3 b hb).mono λ i hi=>by simp[hi]
      .exact (q5 b hb).mono λ i hi=>by simp[hi]
    .cases h1
   .cases h1
  .cases h1
 | [],_::_,_,_,_,_,_,hv,_,_=>hv.elim
 | _::_,[],_,_,_,_,_,hv,_,_=>hv.elim
theorem cP.Wl{X Y:Nat->Prop}{w w':World}(h:cP X w w')(YN:∀ b,X b->Y b):cP Y w w':=⟨h.os,h.tape,h.output,h.size,λ b hb hn=>h.block b hb λ hx=>hn (YN b hx)⟩
theorem Pq(h:Inv c G s a w){ids:List Nat}{b:Nat}(hb:tY G s.ae ids b):b<w.heap.size:=(Gp h hb).2.2.1
theorem Rr{lk:Nat->Option au}{τ:Ty}{v:AV}{r:τ.den×List Nat}(h:eK lk τ v=some r):v.cell=true\/∃ s x,v = .az ⟨.st s,x⟩:=by
 cases v with
 | az u =>
  obtain⟨aV,x⟩:=u
  cases aV with
  | st s=>exact .inr ⟨s,x,rfl⟩
  | _=>exact .inl rfl
 | nil=>exact .inl rfl
 | aq id=>exact .inl rfl
 | row id=>exact .inl rfl
 | _=>simp[eK] at h
theorem WI(h:Inv c G s a w){τ:Ty}{v:AV}{x:Value}{xs:List τ.den}{ids:List Nat}(ht:eK s.ae (.slice τ) v=some (xs,ids))(hv:VR c G s.ae w v x):∃ fp,Ow w (.slice τ.size (xs.map τ.aT)) [x] fp/\fp.Nodup/\∀ b∈fp,tY G s.ae ids b:=by
 rcases Rr ht with hc|⟨st,y,rfl⟩
 .exact wS h ht (hv.OB hc)
 .simp[eK,Ty.wR] at ht
theorem lI:∀ {us:List TV} {cs:List Value} {fp:List Nat},dA w (us.map TV.aT) cs fp->xS us->dA w ((us.map R0).map TV.aT) cs fp
 | [],_,_,h,_=>h
 | ⟨τ,x⟩::us,cs,fp,h,hf=>by
  obtain⟨v,r,f1,f2,rfl,rfl,h3,h4⟩:=h
  cases τ with
  | mv t =>
   have hf:Option.isSome (α:=List t.den) x=true/\xS us:=hf
   refine⟨v,r,f1,f2,rfl,rfl,?_,lI h4 hf.2⟩
   match x,hf.1,h3 with
   | some l,_,h3=>exact h3
  | ptr=>exact⟨v,r,f1,f2,rfl,rfl,h3,lI h4 hf⟩
  | int k=>exact⟨v,r,f1,f2,rfl,rfl,h3,lI h4 hf⟩
  | bool=>exact⟨v,r,f1,f2,rfl,rfl,h3,lI h4 hf⟩
  | str=>exact⟨v,r,f1,f2,rfl,rfl,h3,lI h4 hf⟩
  | slice t=>exact⟨v,r,f1,f2,rfl,rfl,h3,lI h4 hf⟩
  | st q=>exact⟨v,r,f1,f2,rfl,rfl,h3,lI h4 hf⟩
theorem Gi:∀ {us:List TV} {cs:List Value} {fp:List Nat},dA w (us.map TV.aT) cs fp->(∀ u∈us,u.τ.KF=true)->dA w ((us.map OX).map TV.aT) cs []
 | [],_,_,h,_=>⟨h.1,rfl⟩
 | ⟨τ,x⟩::us,cs,fp,h,hf=>by
  obtain⟨v,r,f1,f2,rfl,rfl,h3,h4⟩:=h
  have hr:=Gi h4 λ u hu=>hf u (by simp[hu])
  have sc:τ.wR=true->Ow w (τ.aT x) [v] []:=λ hs=>Ow.gf (S:=λ _=>True) _ (tm hs x) (Ow.rd _ h3 λ _ _=>trivial)
  have hm:τ.KF=true:=hf ⟨τ,x⟩ (by simp)
  cases τ with
  | mv t =>
   refine⟨v,r,[],[],rfl,rfl,?_,hr⟩
   match x,h3 with
   | some l,h3=>obtain⟨a',cap,k1,_⟩:=h3;exact⟨⟨_,_,_,k1⟩,rfl⟩
   | none,h3=>exact⟨h3.1,rfl⟩
  | int k=>exact⟨v,r,[],[],rfl,rfl,sc rfl,hr⟩
  | bool=>exact⟨v,r,[],[],rfl,rfl,sc rfl,hr⟩
  | str=>exact⟨v,r,[],[],rfl,rfl,sc rfl,hr⟩
  | slice t=>cases hm
  | ptr=>exact⟨v,r,[],[],rfl,rfl,sc rfl,hr⟩
  | st q=>cases hm
theorem Uy(l:List Value)(k n:Nat):l.take k++(l.drop k).take n++l.drop (k+n)=l:=by
 rw[a2t,<-a3n,a3c,a3c]
theorem Inv.ZB(h:Inv c G s a w){id i:Nat}{p q:aM}{xs:List (Ty.den (.st p))}{y:p.den}{z:q.den}(aN:s.ae id=some (.aq (.st p) xs))
  (hy:p.ka ((p.cells (xs.getD i (Ty.zero (.st p)))).map OX)=some y) (hz:q.ka ((p.cells (xs.getD i (Ty.zero (.st p)))).map R0)=some z) (zB:p.uF.all Ty.KF=true)
  (Y1:xS (p.cells (xs.getD i (Ty.zero (.st p))))) {a0:Option Addr} {n cap:Nat} {l:List Value} (fB:G.η id = .tuple (.slice a0 n cap::l).toArray) (hi:i<n) :
  ∃ G' f1 b,a0=some ⟨b,0,none⟩/\dk w b (i * p.size) ((l.drop (i * p.size)).take p.size)/\((l.drop (i * p.size)).take p.size).length=p.size/\Inv c G' (s.bQ.dT id (.st p) (xs.set i y)) a w /\
   Ow w (q.aT z) ((l.drop (i * p.size)).take p.size) f1/\f1.Nodup/\Fr c G' (s.bQ.dT id (.st p) (xs.set i y)).ae w f1:=by
 have hT:=h.aI.tr id _ xs aN
 obtain⟨hn,b,f,t,e1,Io,hh,lJ⟩:=yW hT fB hi
 have QR:i<xs.length:=by omega
 have GF:l.length=cap * p.size/\xs.length<=cap/\cap<=maxLen/\xs.length<=140737488355328:=by
  obtain⟨v0,l0,a1,ND,k1,k2,k3,k4,k5,k6⟩:=hT
  rw[fB] at k1
  simp only[a2X] at k1
  have k1:(Value.slice a0 n cap::l)=v0::l0:=congrArg Array.toList k1
  simp only[a1C] at k1
  obtain⟨k7,rfl⟩:=k1
  rw[k2] at k7
  simp only[a3o] at k7
  obtain⟨_,_,rfl⟩:=k7
  rcases k6 with ⟨rfl,_,_⟩|⟨_,_,_,_,_,_,k8,_⟩
  .simp at QR
  .exact⟨k8,k3,k4,k5⟩
 have cj:∀ d∈xs.map (Ty.aT (.st p)),d.size=p.size:=E8 (τ := .st p) xs
 obtain⟨f0,f1,f2,hf,m0,m1,m2⟩:=bV.split (xs.map (Ty.aT (.st p))) i (Ty.aT (.st p) (xs.getD i (Ty.zero (.st p)))) lJ cj (by simp[List.getD,QR])
 have wm:((l.drop (i * p.size)).take p.size).length=p.size:=by rw[a3f,a2H];omega
 have m1:Ow w (.agg ((p.cells (xs.getD i (Ty.zero (.st p)))).map TV.aT)) ((l.drop (i * p.size)).take p.size) f1:=by
  have:=m1
  rwa [show Ty.aT (.st p) (xs.getD i (Ty.zero (.st p)))=p.aT (xs.getD i (Ty.zero (.st p))) from rfl,aM.cq] at this
 have hz':Ow w (q.aT z) ((l.drop (i * p.size)).take p.size) f1:=by
  rw[aM.cq,aM.pj hz]
  exact lI m1 Y1
 have Pn:Ow w (p.aT y) ((l.drop (i * p.size)).take p.size) []:=by
  rw[aM.cq,aM.pj hy]
  refine Gi m1 λ u hu=>?_
  have:u.τ∈p.uF:=by rw[<-aM.rT p (xs.getD i (Ty.zero (.st p)))];exact a1D.2 ⟨u,hu,rfl⟩
  exact a2e.1 zB _ this
 have hr:=m2 w (p.aT y) _ [] (λ _ _=>rfl) wm Pn
 rw[Uy,a2O] at hr
 have dq:=h.aI.nd id _ xs aN
 rw[Io,a2o,hf] at dq
 obtain⟨Ii,dq⟩:=dq
 have a1u:=dq
 rw[a1X,a1X] at dq
 obtain⟨⟨d0,d1,d01⟩,d2,X1⟩:=dq
 have R4:jH w (G.η id) (.st p) (xs.set i y) (b::(f0++f2)):=by
  refine⟨_,l,a0,cap,fB,by rw[hn,a3r],by rw[a3r];exact GF.2.1,GF.2.2.1,by rw[a3r];exact GF.2.2.2, .inr ⟨b,f0++f2,t,e1,rfl,hh,GF.1,?_⟩⟩
  rw[a4v]
  exact hr
 have sZ:∀ k∈b::(f0++f2),k∈G.φ id:=λ k hk=>by
  rw[Io,hf]
  simp only[a1N,a1A] at hk ⊢
  rcases hk with hk|hk|hk<;>simp[hk]
 have VQ:(b::(f0++f2)).Nodup:=by
  refine a2o.2 ⟨λ hk=>Ii ?_,eQ d0 d2 λ x hx yq=>X1 x (by simp[hx]) x yq rfl⟩
  simp only[a1A] at hk ⊢
  rcases hk with hk|hk<;>simp[hk]
 have hf1:∀ k∈f1,k∈G.φ id/\k∉b::(f0++f2):=λ k hk=>by
  refine⟨by rw[Io,hf];simp[hk],λ hm=>?_⟩
  simp only[a1N,a1A] at hm
  rcases hm with rfl|hm|hm
  .exact Ii (by simp[hk])
  .exact d01 k hm k hk rfl
  .exact X1 k (by simp[hk]) k hm rfl
 obtain⟨g1,g2,g3⟩:=h.bQ
 have N1:s.bQ.ae id=some (.aq (.st p) xs):=by rw[lZ];simp[aN,au.dm]
 let A:List (Nat×TE):=[(id,(G.η id,b::(f0++f2), .aq (.st p) (xs.set i y)))]
 have T:=DI.ofList (c:=c) (G:=G) (lk:=s.bQ.ae) (w:=w) (w':=w) (A:=A) (λ e he=>by
  simp only[A,a2g] at he
  subst he
  exact⟨_,xs,_,_,l,l,N1,rfl,fB,fB,R4,VQ⟩) (λ e he k hk=>by
  simp only[A,a2g] at he
  subst he
  exact .inl ⟨_,a2g.2 rfl,sZ k hk⟩) (λ e he e' yn _ _ _=>by
  simp only[A,a2g] at he yn
  rw[he,yn]) (by simp[A]) (λ _ _ _=>rfl) rfl rfl rfl (a2u _)
 have hI:=bc.gi g1 T g2 g3
 have cu:(s.bQ.dT id (.st p) (xs.set i y)).ae=Kj A s.bQ.ae:=by
  funext j
  rw[gL,Hy]
 refine⟨⟨G.S,Cw A G,wT A G⟩,f1,b,e1,?_,wm,?_,hz',d1,?_⟩
 .have:=(dk.of_heap hh).part (i * p.size) p.size
  rwa [a3j] at this
 .unfold Inv
  rw[cu]
  exact hI
 .intro k hk
  obtain⟨k1,k2⟩:=hf1 k hk
  obtain⟨q1,q2,q3,q4⟩:=g1.aI.pl id _ xs k N1 k1
  refine⟨q1,q2,q3,λ j o hj oT=>?_,λ j τ ys hj oT=>?_⟩
  .have oT:fe (Cw A G j)=some k:=oT
   rw[gL] at hj
   by_cases qX:j=id
   .subst qX
    have:Cw A G j=G.η j:=by simp[Cw,A,ae]
    rw[this,fB] at oT
    cases oT
   .rw[a1B qX] at hj
    have:Cw A G j=G.η j:=by
     have fP:Nat.beq id j=false:=by
      cases hb:Nat.beq id j with
      | false=>rfl
      | true=>exact absurd (a1x hb).symm qX
     simp[Cw,A,ae,fP]
    rw[this] at oT
    exact q4 j o hj oT
  .have oT:k∈wT A G j:=oT
   rw[gL] at hj
   by_cases qX:j=id
   .subst qX
    have:wT A G j=b::(f0++f2):=by simp[wT,A,ae]
    rw[this] at oT
    exact k2 oT
   .rw[a1B qX] at hj
    have:wT A G j=G.φ j:=by
     have fP:Nat.beq id j=false:=by
      cases hb:Nat.beq id j with
      | false=>rfl
      | true=>exact absurd (a1x hb).symm qX
     simp[wT,A,ae,fP]
    rw[this] at oT
    exact qX (g1.aI.ap j id _ _ _ _ k hj N1 oT k1)
theorem RO(hE:bD c.P c.E)(h:Inv c G s a w){o:Oper}{vc:Vc}{s':ag}(hq:OT c.E s o=some (vc,s'))(fi:vc.ok){Q:Exit->Act->World->Prop} :
  o.wp c.P a w (λ a' w'=>∃ G',Inv c G' s' a' w') Q:=by
 unfold OT at hq
 split at hq
 case h_2=>cases hq
 case h_1 d hd =>
 split at hq
 case h_2=>cases hq
 case h_1 sY =>
 split at hq
 case h_4=>cases hq
 case h_1 T len parts bl =>
  split at hq
  case h_2=>cases hq
  case h_1 τ p hT =>
  obtain⟨b,e⟩:=p
  split at hq
  case h_2=>cases hq
  case h_1 hlen =>
  split at hq
  case h_2=>cases hq
  case h_1 xs ids oX =>
  split at hq
  case h_2=>cases hq
  case h_1 hb rZ =>
  simp only[a1w,a1y] at hq
  obtain⟨rfl,rfl⟩:=hq
  simp only[a1z] at hlen
  have VK:=a1x hlen.1
  have QI:=a2n hlen.2
  subst VK
  obtain⟨h1,⟨b',e',h2⟩,i,z,h3,h4,h5,h6,h7⟩:=hE.slice hT
  have GO:=τ.size_pos
  have GL:τ.size<=100:=Ty.size_le τ
  have a0m:parts.size * τ.size<=16777216:=a4a (Nat.mul_le_mul QI GL) (by decide)
  obtain⟨r,fp,h8,h9,YI,h11,h12⟩:=JL (place:=λ i=>some (i * τ.size,τ.size)) h (λ _=>rfl) (l:=((Array.range (parts.size * τ.size)).map (λ j=>((if parts.size * τ.size=0 then #[] else z.cells:Array Value)[j % (if parts.size * τ.size=0 then #[] else z.cells:Array Value).size]!))).toList) oX (aJ.CT (bf h) _) (cY hb) (by simp)
  have uj:=MS oX
  simp only[a2J,a2y] at uj
  rw[uj] at YI
  simp only[a4E,a3R,a2K,a2G] at h8
  have cH:(execOp a.eval o).run c.P w = .ok (.value (.slice (some ⟨w.heap.size,0,none⟩) parts.size parts.size)) (w.alloc (.cells r.toArray e)):=by
   have e2:(parts.map λ (i,x)=>(i,a.eval x)).toList=parts.toList.map λ p=>(p.1,a.eval p.2):=by simp
   have ky:¬ (parts.size * τ.size>2 ^ 24):=by omega
   simp only[execOp,bl,Instr.buildSlice,a2h,a2w h1,a1U,hE.sizeOf h2,a1B ky,a2i]
   by_cases h0:parts.size * τ.size=0
   .simp only[h0,a3z,a2h,a2i,a1U,e2] at h8 ⊢
    rw[h8]
    simp[newRow]
   .simp only[h0,a4J,a2h,zeroValue,typeInfo,run_program,a1U,h3,h6,a2i,e2] at h8 ⊢
    rw[h8]
    simp[newRow]
  unfold Oper.wp
  rw[cH]
  show ∃ G',Inv c G' _ (a.put o.dst _) _
  rw[hd]
  have bC:∀ k∈fp,k<w.heap.size:=λ k hk=>Pq h (h12 k hk)
  have lJ:bV (w.alloc (.cells r.toArray e)) (xs.map τ.aT) r fp:=bV.aQ _ h9 λ k hk=>a5k w _ k (bC k hk)
  refine Inv.built h (zs:=xs) (fp:=w.heap.size::fp) (l:=r) ((iC w _).Wl λ _ k=>k.elim) ⟨_,_,some ⟨w.heap.size,0,none⟩,parts.size,rfl,by rw[uj],by rw[uj];omega,by simp only[maxLen];omega,by rw[uj];omega, .inr ⟨w.heap.size,fp,e,rfl,rfl,a4b w _,YI,lJ⟩⟩ ⟨_,_,_,rfl⟩ (a2o.2 ⟨λ hh=>a3U _ (bC _ hh),h11⟩) (λ k hk=>?_) rZ
  rcases a1N.1 hk with rfl|hk
  .exact .inr ⟨a2u _,by simp⟩
  .exact .inl (h12 k hk)
 case h_2 T ad bl =>
  split at hq
  case h_2=>cases hq
  case h_1 q r id i sz hT hx =>
  split at hq
  case h_2=>cases hq
  case h_1 p xs aN =>
  split at hq
  case h_2=>cases hq
  case h_1 y z hb hy hz =>
  split at hq
  case h_2=>cases hq
  case h_1 Dt =>
  simp only[a1w,a1y] at hq
  obtain⟨rfl,rfl⟩:=hq
  simp only[a1z] at hb Dt
  have cj:=a1x hb.1
  subst cj
  have hp:=bf h ad
  rw[hx] at hp
  obtain⟨_,b,n,cap,l,fB,hi,hp⟩:=hp
  obtain⟨G1,f1,b',e1,tA,hlen,hI,hO,dq,hF⟩:=h.ZB aN hy hz hb.2 fi fB hi
  simp only[a1w,a3y,a1H] at e1
  subst e1
  have hqs:q.size=p.size:=by
   have e:=Ow.length _ hO
   rw[show (q.aT z).size=q.size from Ty.cK (.st q) z] at e
   omega
  have cH:(execOp a.eval o).run c.P w = .ok (.value (.agg ((l.drop (i * p.size)).take p.size).toArray)) w:=by
   simp only[execOp,bl,hp,a3w,a2h,qH hE hT tA (by rw[hlen];exact hqs.symm),a1U,a2i]
   rfl
  unfold Oper.wp
  rw[cH]
  show ∃ G',Inv c G' _ (a.put o.dst _) _
  rw[hd]
  have tC:∀ e∈bS (bM d) (TV.cells ⟨.st q,z⟩),(s.bQ.dT id (.st p) (xs.set i y)).ae e.1=none:=λ e he=>by
   have h0:(s.ae e.1).isNone=true:=a2e.1 Dt.1 e he
   have fP:e.1≠id:=λ hh=>by rw[hh,aN] at h0;cases h0
   rw[gL,a1B fP,lZ]
   show Option.map au.dm (s.ae e.1)=none
   cases hl:s.ae e.1 with
   | none=>rfl
   | some o=>rw[hl] at h0;cases h0
  obtain⟨G2,lk',k1,k2,k3,k4,_⟩:=bc.Ku (v:=⟨.st q,z⟩) (id:=bM d) hI ⟨_,rfl,hO⟩ dq hF tC (cY Dt.2) (λ j hj=>by
   cases hr:c.R j with
   | none=>rfl
   | some v=>have:=h.kd j v hr;unfold bM at hj;omega)
  refine⟨G2,?_⟩
  have cu:ag.ae { ar:=s.bQ.ar.set d (fV (bM d) ⟨.st q,z⟩),aC:=bS (bM d) (q.cells z)++(s.bQ.dT id (.st p) (xs.set i y)).aC }=lk':=by
   funext j
   rw[k1 j]
   exact qq _ _ j
  unfold Inv
  rw[cu,show ag.sl { ar:=s.bQ.ar.set d (fV (bM d) ⟨.st q,z⟩),aC:=bS (bM d) (q.cells z)++(s.bQ.dT id (.st p) (xs.set i y)).aC }=lN s.bQ.ar.length s.bQ.sl (some d) (fV (bM d) ⟨.st q,z⟩) from rD s.bQ.ar d _ _,
   show ({ ar:=s.bQ.ar.set d (fV (bM d) ⟨.st q,z⟩),aC:=bS (bM d) (q.cells z)++(s.bQ.dT id (.st p) (xs.set i y)).aC }:ag).ar.length=s.bQ.ar.length from by simp]
  exact bc.put k2 k4.iA
 case h_3 cl bl =>
  split at hq
  case h_3=>cases hq
  case h_2 f ku =>
   split at hq
   case h_1=>cases hq
   case h_2 fl _ _ =>
   split at hq
   case h_2=>cases hq
   case h_1 own ids ht =>
   split at hq
   case h_2=>cases hq
   case h_1 Z9 hb has =>
   split at hq
   case h_2=>cases hq
   case h_1 pre res hc =>
   split at hq
   case h_2=>cases hq
   case h_1 Dt =>
   simp only[a1w,a1y] at hq
   obtain⟨rfl,rfl⟩:=hq
   simp only[a1z,a2e] at Dt
   have tC:∀ p∈bg (bM d) res,(ids.foldl ag.gone s).ae p.1=none:=λ p hp=>by simpa using Dt.1 p hp
   have rL:=cY Dt.2
   obtain⟨oU,kl⟩:=hE.Hb f Z9 pre res hc fi
   obtain⟨xa,t1,t2,t3,t4⟩:=vx h ht (cY hb) (aJ.pI (bf h) _)
   have h1:Inv c G (ids.foldl ag.gone s) a w:=uL ids h
   have hF:∀ b,b∈xa.flatten->tX c G (ids.foldl ag.gone s).ae w b:=λ b hb=>Gp h (t4 b hb)
   obtain⟨m1,m2⟩:=tF hE h1 has t1 t2 (aJ.pI (bf h1) _)
   generalize Sg:ids.foldl ag.gone s=s1 at *
   unfold Oper.wp
   rw[ji bl ku rfl oU]
   simp only[Oper.upon]
   refine (kl w (SX G s1.ae) _ xa.flatten ?_ m1 (.inr m2) t3 (λ b hb=>⟨(hF b hb).2.2.1,(hF b hb).XD⟩)).mono ?_
   .exact h1.Tw
   .rintro e w' ⟨x,fp,rfl,hk,hO,dq,qW⟩
    have hI:=Inv.over h1 hF hk
    obtain⟨ys,qM,J3⟩:=Fl (c:=c) (id:=bM d) hO
    have TS:Fr c G s1.ae w' fp:=λ b hb=>by
     rcases qW b hb with hi|⟨q1,q2⟩
     .obtain⟨f1,f2,f3,f4,f5⟩:=hF b hi
      exact⟨f1,f2,a2c f3 hk.size,f4,f5⟩
     .refine⟨.inl (a4a h1.aQ.size q1),λ hs=>?_,q2,λ i o' hi qT=>?_,λ j τ zs hj oT=>?_⟩
      .have:=h1.ed b hs;omega
      .have:=(h1.place i o' b hi qT).2.2;omega
      .have:=(h1.aI.pl j τ zs b hj oT).2.2.1;omega
    obtain⟨G',lk',k1,k2,k3,k4,_⟩:=hI.FJ (id:=bM d) qM dq TS tC rL (λ j hj=>by
     cases hr:c.R j with
     | none=>rfl
     | some v=>have:=h.kd j v hr;unfold bM at hj;omega)
    refine⟨G',?_⟩
    have cu:ag.ae { ar:=s1.ar.set d (me (bM d) res),aC:=bg (bM d) res++s1.aC }=lk':=by
     funext i
     rw[k1 i]
     exact qq _ _ i
    unfold Inv
    rw[cu,hd,show ag.sl { ar:=s1.ar.set d (me (bM d) res),aC:=bg (bM d) res++s1.aC }=lN s1.ar.length s1.sl (some d) (me (bM d) res) from rD s1.ar d _ _,
     show ({ ar:=s1.ar.set d (me (bM d) res),aC:=bg (bM d) res++s1.aC }:ag).ar.length=s1.ar.length from by simp]
    exact bc.put k2 (J3 G' lk' k4)
  case h_1 ku =>
  split at hq
  case h_2=>cases hq
  case h_1 T T' O7 =>
  split at hq
  case h_2=>cases hq
  case h_1 τ b e LB hT =>
  have LB:=a1x LB
  subst LB
  split at hq
  case h_2=>cases hq
  case h_1 x y e7 =>
  split at hq
  case h_2=>cases hq
  case h_1 xs i ys j hx hy =>
  split at hq
  case h_2=>cases hq
  case h_1 hb rZ =>
  simp only[a1w,a1y] at hq
  obtain⟨rfl,rfl⟩:=hq
  obtain⟨v,z,e1,e2,e3⟩:=Kw h e7
  have hb:=cY hb
  rw[a1X] at hb
  obtain⟨n1,n2,n3⟩:=hb
  obtain⟨fx,o1,o2,o3⟩:=WI h hx e2
  obtain⟨fy,p1,p2,p3⟩:=WI h hy e3
  obtain⟨v',w',fp,l,k1,k2,k3,k4,k5,k6⟩:=OL (c:=c) (w:=w) hE hT o1 p1 (λ k hk=>Pq h (o3 k hk)) (λ k hk=>Pq h (p3 k hk)) o2 p2
   (λ k hk oW=>h.kp (o3 k hk) (p3 k oW) λ x hx y hy=>n3 x hx y hy) fi o.type
  have GA:cl.argTypes = #[T,T]:=by rw[<-a2G (xs:=cl.argTypes),O7]
  have GR:cl.args.map a.eval = #[v,z]:=by rw[<-a2G (xs:=cl.args.map a.eval),a3H,e1]
  have zz:(execOp a.eval o)=(do let d <-resolve a.eval cl o.type;invoke d.target d.args):=by simp[execOp,bl]
  have Js:(execOp a.eval o).run c.P w=((Builtin.append_ #[T,T] o.type #[v,z]).run c.P w).andThen λ v w => .ok (.value v) w:=by
   rw[zz]
   simp[resolve,ku,invoke,builtin,GA,GR]
  unfold Oper.wp
  rw[Js,k1]
  show ∃ G',Inv c G' _ (a.put o.dst _) _
  rw[hd]
  refine Inv.built h (zs:=xs++ys) (fp:=fp) (l:=l) (k6.Wl λ k hk=>(o3 k hk).mono λ i hi=>by simp[hi]) k2 k3 k4 (λ k hk=>?_) rZ
  rcases k5 k hk with hk|hk|hk
  .exact .inl ((o3 k hk).mono λ i hi=>by simp[hi])
  .exact .inl ((p3 k hk).mono λ i hi=>by simp[hi])
  .exact .inr hk
end
end Go.Proofs.YtaaamahdcpcofaaDoor

namespace Go.Proofs.YtaaamahdcpcofaaDoor
def ZI:Value->Nat
 | .pointer (some a)=>a.block
 | _=>0
def oa(G:Gh)(m:List (Nat×Nat))(k:Nat):Nat:=match ae m k with
 | some id=>ZI (G.η id)
 | none=>0
def mS(m m':List (Nat×Nat)):Prop:=∀ k id,ae m k=some id->ae m' k=some id
theorem mS.refl(m:List (Nat×Nat)):mS m m:=λ _ _ h=>h
theorem mS.trans{a b c:List (Nat×Nat)}(h:mS a b)(k:mS b c):mS a c:=λ i id q=>k i id (h i id q)
theorem qs{α:Type}(k:Nat)(o:α)(l:List (Nat×α))(j:Nat):ae ((k,o)::l) j=if j=k then some o else ae l j:=by
 have e:ae ((k,o)::l) j=match Nat.beq k j with
  | true=>some o
  | false=>ae l j:=rfl
 rw[e]
 cases hb:Nat.beq k j with
 | true=>rw[a1S (a1x hb).symm]
 | false=>rw[a1B (λ e=>by subst e;rw[a4G] at hb;cases hb)]
theorem Ll{m:List (Nat×Nat)}{k id:Nat}(h:ae m k=none):mS m ((k,id)::m):=λ i j q=>by
 rw[qs]
 by_cases hi:i=k
 .subst hi;rw[h] at q;cases q
 .rw[a1B hi];exact q
theorem Mb{m:List (Nat×Nat)}{k id:Nat}:ae ((k,id)::m) k=some id:=by rw[qs,a1S rfl]
section
variable {c:Ctx} {G:Gh} {s:ag} {a:Act} {w w':World}
theorem UZ{lk:Nat->Option au}{τ:Ty}{v:AV}{x:Value}{y:τ.den}(h:lG (λ _=>none) τ v=some y)(hv:C1 c G lk w v x):Rd w G.S (τ.aT y) [x]:=Kx h hv
theorem pK{sl:Nat->AV}{n:Nat}{lk:Nat->Option au}(h:bc c G sl n lk a w):∀ {ks:List CK} {cs:List AV} {m m':List (Nat×Nat)} {ds:List TV} {ids:List Nat} {l:List Value},dj lk ks cs m=some (ds,ids,m')->ids.Nodup->aJ (C1 c G lk w) cs l ->
  mS m m'/\∃ fp,(∀ mf,mS m' mf->mR w G.S (oa G mf) ks ds l fp)/\fp.Nodup/\∀ b∈fp,tY G lk ids b
 | [],[],m,m',ds,ids,l,ht,_,hv=>by
  simp only[dj,a1w,a1y] at ht
  obtain⟨rfl,rfl,rfl⟩:=ht
  match l,hv with
  | [],_=>exact⟨mS.refl _,[],λ _ _=>rfl,a2L,by simp⟩
 | .d τ::ks,v::cs,m,m',ds,ids,l,ht,hn,hv=>by
  simp only[dj] at ht
  split at ht
  case h_2=>cases ht
  case h_1 y hy tR =>
  split at ht
  case h_2=>cases ht
  case h_1 YG QS m1 hr =>
  simp only[a1w,a1y] at ht
  obtain⟨rfl,rfl,rfl⟩:=ht
  match l,hv with
  | x::l,hv =>
   obtain⟨e1,fp,e2,e3,e4⟩:=pK h hr hn hv.2
   exact⟨e1,fp,λ mf hm=>⟨⟨rfl,tR,UZ hy hv.1⟩,e2 mf hm⟩,e3,e4⟩
 | .o τ::ks,v::cs,m,m',ds,ids,l,ht,hn,hv=>by
  simp only[dj] at ht
  split at ht
  case h_2=>cases ht
  case h_1 y i hy tR =>
  split at ht
  case h_2=>cases ht
  case h_1 YG QS m1 hr =>
  simp only[a1w,a1y] at ht
  obtain⟨rfl,rfl,rfl⟩:=ht
  rw[a1X] at hn
  obtain⟨n1,n2,n3⟩:=hn
  match l,hv with
  | x::l,hv =>
   obtain⟨e1,fp,e2,e3,e4⟩:=pK h hr n2 hv.2
   obtain⟨f1,o1,o2,o3⟩:=wS h hy hv.1
   refine⟨e1,f1++fp,λ mf hm=>⟨f1,fp,rfl,⟨rfl,tR,o1⟩,e2 mf hm⟩,eQ o2 e3 λ b hb cm=>h.kp (o3 b hb) (e4 b cm) λ x hx y hy=>n3 x hx y hy,λ b hb=>?_⟩
   rcases a1A.1 hb with hb|hb
   .exact (o3 b hb).mono λ k hk=>by simp[hk]
   .exact (e4 b hb).mono λ k hk=>by simp[hk]
 | .p j::ks,v::cs,m,m',ds,ids,l,ht,hn,hv=>by
  simp only[dj] at ht
  split at ht
  case h_2=>cases ht
  case h_1 id =>
  match l,hv with
  | x::l,hv =>
   have key:∀ m1,dj lk ks cs m1=some (ds,ids,m')->mS m m1->ae m1 j=some id->mS m m'/\∃ fp,(∀ mf,mS m' mf->mR w G.S (oa G mf) (.p j::ks) ds (x::l) fp)/\fp.Nodup/\∀ b∈fp,tY G lk ids b:=λ m1 hr hx hj=>by
    obtain⟨e1,fp,e2,e3,e4⟩:=pK h hr hn hv.2
    refine⟨hx.trans e1,fp,λ mf hm=>?_,e3,e4⟩
    have Zt:C1 c G lk w (.ptr id 0) x:=hv.1
    obtain⟨b,h1,h2,_⟩:=Zt
    have:oa G mf j=b:=by
     simp only[oa,hm j id (e1 j id hj),h1]
     rfl
    cases ds with
    | nil=>exact⟨by rw[this];exact h2,e2 mf hm⟩
    | cons d ds=>exact⟨by rw[this];exact h2,e2 mf hm⟩
   split at ht
   .rename_i i hi
    split at ht
    .rename_i hb
     have hb:=a1x hb
     subst hb
     exact key m ht (mS.refl _) hi
    .cases ht
   .rename_i ky
    exact key _ ht (Ll ky) Mb
 | [],_::_,_,_,_,_,_,ht,_,_=>by simp[dj] at ht
 | .d _::_,[],_,_,_,_,_,ht,_,_=>by simp[dj] at ht
 | .o _::_,[],_,_,_,_,_,ht,_,_=>by simp[dj] at ht
 | .p _::_,[],_,_,_,_,_,ht,_,_=>by simp[dj] at ht
def Yt(lk:Nat->Option au)(m:List (Nat×Nat))(k0 n:Nat):Prop:=∀ k,k0<=k->k<k0+n->∃ id cs,ae m k=some id/\lk id=some (.box cs)
theorem tO{sl:Nat->AV}{n:Nat}{lk:Nat->Option au}(h:bc c G sl n lk a w):∀ {sh:List (List CK)} {k:Nat} {m m':List (Nat×Nat)} {bN:List (List TV)} {ids:List Nat},kq lk sh k m=some (bN,ids,m')->ids.Nodup ->
  mS m m'/\Yt lk m' k sh.length/\∃ fp,(∀ mf,mS m' mf->kz w G.S (oa G mf) k sh bN fp)/\fp.Nodup/\∀ b∈fp,tY G lk ids b
 | [],k,m,m',bN,ids,ht,_=>by
  simp only[kq,a1w,a1y] at ht
  obtain⟨rfl,rfl,rfl⟩:=ht
  exact⟨mS.refl _,λ j h1 h2=>by simp at h2;omega,[],λ _ _=>rfl,a2L,by simp⟩
 | ks::sh,k,m,m',bN,ids,ht,hn=>by
  simp only[kq] at ht
  split at ht
  case h_2=>cases ht
  case h_1 id aN =>
  split at ht
  case h_2=>cases ht
  case h_1 cs lU =>
  split at ht
  case h_2=>cases ht
  case h_1 ds i m1 hr =>
  split at ht
  case h_2=>cases ht
  case h_1 a0d QS m2 Sf =>
  simp only[a1w,a1y] at ht
  obtain⟨rfl,rfl,rfl⟩:=ht
  rw[a1X] at hn
  obtain⟨n1,n2,n3⟩:=hn
  obtain⟨b,l,t,q1,q2,q3⟩:=h.aC id _ lU
  obtain⟨e1,f1,e2,e3,e4⟩:=pK h hr n1 q3
  obtain⟨g1,g0,f2,g2,g3,g4⟩:=tO h Sf n2
  refine⟨e1.trans g1,λ j h1 h2=>?_,f1++f2,λ mf hm=>⟨l,t,f1,f2,rfl,?_,e2 mf (g1.trans hm),g2 mf hm⟩,eQ e3 g3 λ b hb cm=>h.kp (e4 b hb) (g4 b cm) λ x hx y hy=>n3 x hx y hy,λ b hb=>?_⟩
  .by_cases hj:j=k
   .subst hj
    exact⟨id,cs,(e1.trans g1) j id aN,lU⟩
   .exact g0 j (by omega) (by simp at h2;omega)
  .have:oa G mf k=b:=by
    simp only[oa,hm k id ((e1.trans g1) k id aN),q1]
    rfl
   rw[this]
   exact q2
  .rcases a1A.1 hb with hb|hb
   .exact (e4 b hb).mono λ k hk=>by simp[hk]
   .exact (g4 b hb).mono λ k hk=>by simp[hk]
theorem uA:∀ {fl:List (Option Nat)} {vs:List AV} {m m':List (Nat×Nat)},kK fl vs m=some m'->mS m m'/\∀ (i k:Nat),fl[i]?=some (some k)->∃ id,vs[i]?=some (AV.ptr id 0)/\ae m' k=some id
 | [],[],m,m',h=>by
  simp only[kK,a1w] at h
  subst h
  exact⟨mS.refl _,λ i k q=>by simp at q⟩
 | none::fl,v::vs,m,m',h=>by
  obtain⟨h1,h2⟩:=uA (fl:=fl) (vs:=vs) h
  refine⟨h1,λ i k q=>?_⟩
  cases i with
  | zero=>simp at q
  | succ i=>exact h2 i k (by simpa using q)
 | some k::fl,v::vs,m,m',h=>by
  simp only[kK] at h
  split at h
  case h_2=>cases h
  case h_1 id =>
  have key:∀ m1,mS m m1->ae m1 k=some id->kK fl vs m1=some m'->mS m m'/\∀ (i k':Nat),(some k::fl)[i]?=some (some k')->∃ dH,(AV.ptr id 0::vs)[i]?=some (AV.ptr dH 0)/\ae m' k'=some dH:=λ m1 e1 e2 e3=>by
   obtain⟨h1,h2⟩:=uA e3
   refine⟨e1.trans h1,λ i k' q=>?_⟩
   cases i with
   | zero =>
    simp only[a4y,a1w] at q
    subst q
    exact⟨id,rfl,h1 k id e2⟩
   | succ i=>exact h2 i k' (by simpa using q)
  split at h
  .rename_i i hi
   split at h
   .rename_i hb
    have hb:=a1x hb
    subst hb
    exact key m (mS.refl _) hi h
   .cases h
  .rename_i ky
   exact key _ (Ll ky) Mb h
 | [],_::_,_,_,h=>by simp[kK] at h
 | some _::_,[],_,_,h=>by simp[kK] at h
 | none::_,[],_,_,h=>by simp[kK] at h
theorem qE{lk:Nat->Option au}{ids:List Nat}{id:Nat}{o:au}(h:xx lk ids id=some o):lk id=some o/\id∉ids/\∃ cs,o = .box cs:=by
 unfold xx at h
 split at h
 .cases h
 .rename_i hc
  split at h
  .rename_i cs lU
   simp only[a1w] at h
   subst h
   exact⟨lU,by simpa using hc,cs,rfl⟩
  .cases h
theorem Uu(h1:Inv c G s a w){ids:List Nat}{X:Nat->Prop}(LC:∀ b,X b->¬ St c G.S b)(BL:∀ id cs b,xx s.ae ids id=some (.box cs)->fe (G.η id)=some b->¬ X b)
  {τ:Ty} {v:AV} {x:Value} {y:τ.den} (hy:deref (xx s.ae ids) τ v=some y) (hx:VR c G s.ae w v x) (B:Nat->Nat):P2 w G.S X B (.ref ⟨τ,y⟩) x:=by
 have hd:=By (S:=G.S) h1 (lk':=xx s.ae ids) (λ id o ho=>(qE ho).1) (λ τ v x y h hv=>xT (λ id e τ xs q=>by obtain⟨_,_,cs,e⟩:=qE q;cases e) (λ id τ xs q=>by obtain⟨_,_,cs,e⟩:=qE q;cases e) h hv) hy hx
 obtain⟨b,o,cs,k1,k2,k3,k4⟩:=hd
 refine⟨b,o,cs,k1,k2,?_,k3,k4⟩
 unfold deref at hy
 split at hy
 case h_2=>cases hy
 case h_1 u hu =>
 cases v with
 | gK z =>
  obtain⟨b',o',dV,q1,q2,_⟩:=hx
  rw[k1] at q1
  simp only[a4p,a1w,a3y] at q1
  obtain⟨rfl,_⟩:=q1
  exact λ hb=>LC _ hb q2
 | ptr id off =>
  obtain⟨b',q1,q2,_⟩:=hx
  rw[k1] at q2
  simp only[a4p,a1w,a3y] at q2
  obtain⟨rfl,_⟩:=q2
  simp only[sG] at hu
  split at hu
  .rename_i OU lU
   exact BL id OU _ lU (by rw[q1];rfl)
  .cases hu
 | fh id i off =>
  simp only[sG] at hu
  split at hu
  .rename_i hr
   obtain⟨_,_,cs,e⟩:=qE hr
   cases e
  .cases hu
 | _=>simp[sG] at hu
theorem Cr(hE:bD c.P c.E)(h1:Inv c G s a w){ids:List Nat}{mf:List (Nat×Nat)}{X:Nat->Prop}(LC:∀ b,X b->¬ St c G.S b)(BL:∀ id cs b,xx s.ae ids id=some (.box cs)->fe (G.η id)=some b->¬ X b){lk0:Nat->Option au} :
  ∀ {fl:List (Option Nat)} {Ts:List TypeId} {vs PZ:List AV} {xs:List Value} {Z9:List Arg},sw c.E (xx s.ae ids) fl Ts vs=some Z9->aJ (VR c G s.ae w) vs xs->aJ (VR c G lk0 w) PZ xs ->
   (∀ (i k:Nat),fl[i]?=some (some k)->∃ id,PZ[i]?=some (AV.ptr id 0)/\ae mf k=some id)->aJ (P2 w G.S X (oa G mf)) Z9 xs
 | [],[],[],PZ,xs,Z9,h,hv,_,_=>by
  simp only[sw,a1w] at h
  subst h
  match xs,hv with
  | [],_=>trivial
 | some k::fl,T::Ts,v::vs,PZ,xs,Z9,h,hv,GQ,hb=>by
  simp only[sw] at h
  split at h
  case h_2=>cases h
  case h_1 r hr =>
  simp only[a1w] at h
  subst h
  match xs,PZ,hv,GQ with
  | x::xs,v0::PZ,hv,GQ =>
   obtain⟨id,q1,q2⟩:=hb 0 k rfl
   simp only[a4y,a1w] at q1
   subst q1
   have hp:VR c G lk0 w (.ptr id 0) x:=GQ.1
   obtain⟨b,k1,k2,_⟩:=hp
   refine⟨?_,Cr hE h1 LC BL hr hv.2 GQ.2 λ i k' q=>by simpa using hb (i+1) k' (by simpa using q)⟩
   show x = .pointer (some ⟨oa G mf k,0,none⟩)
   simp only[oa,q2,k1]
   exact k2
  | x::xs,[],_,GQ=>exact GQ.elim
 | none::fl,T::Ts,v::vs,PZ,xs,Z9,h,hv,GQ,hb=>by
  simp only[sw] at h
  split at h
  case h_2=>cases h
  case h_1 z hz =>
  split at h
  case h_2=>cases h
  case h_1 r JZ hr =>
  simp only[a1w] at h
  subst h
  match xs,PZ,hv,GQ with
  | x::xs,v0::PZ,hv,GQ =>
   refine⟨?_,Cr hE h1 LC BL hr hv.2 GQ.2 λ i k' q=>by simpa using hb (i+1) k' (by simpa using q)⟩
   have a0A:∀ id e τ xs,xx s.ae ids id≠some (.row e τ xs):=λ id e τ xs q=>by obtain⟨_,_,cs,e⟩:=qE q;cases e
   have a0B:∀ id τ xs,xx s.ae ids id≠some (.aq τ xs):=λ id τ xs q=>by obtain⟨_,_,cs,e⟩:=qE q;cases e
   unfold KX at hz
   split at hz
   .rename_i τ q hT
    split at hz
    .rename_i y hy
     simp only[a1w] at hz
     subst hz
     exact xT a0A a0B hy hv.1
    .cases hz
   .split at hz
    .rename_i τ hT
     split at hz
     .rename_i y hy
      simp only[a1w] at hz
      subst hz
      exact Uu h1 LC BL hy hv.1 _
     .cases hz
    .split at hz
     .simp only[a1w] at hz
      subst hz
      cases JZ
     .split at hz
      .rename_i f
       simp only[a1w] at hz
       subst hz
       exact hv.1
      .cases hz
  | x::xs,[],_,GQ=>exact GQ.elim
 | [],_::_,_,_,_,_,h,_,_,_=>by simp[sw] at h
 | [],[],_::_,_,_,_,h,_,_,_=>by simp[sw] at h
 | some _::_,[],_,_,_,_,h,_,_,_=>by simp[sw] at h
 | none::_,[],_,_,_,_,h,_,_,_=>by simp[sw] at h
 | some _::_,_::_,[],_,_,_,h,_,_,_=>by simp[sw] at h
 | none::_,_::_,[],_,_,_,h,_,_,_=>by simp[sw] at h
def dS:List CK->List TV->List TV
 | .d _::ks,_::ds=>dS ks ds
 | .o _::ks,v::ds=>v::dS ks ds
 | .p _::ks,ds=>dS ks ds
 | _,_=>[]
def mO:List CK->List Value->List Value
 | .o _::ks,x::xs=>x::mO ks xs
 | _::ks,_::xs=>mO ks xs
 | _,_=>[]
theorem mR.tW{S:Nat->Prop}{B:Nat->Nat}:∀ {ks:List CK} {ds:List TV} {l:List Value} {fp:List Nat},mR w S B ks ds l fp->dA w ((dS ks ds).map TV.aT) (mO ks l) fp/\(∀ u∈dS ks ds,u.τ.agg=false)/\(dS ks ds).length=(mO ks l).length
 | [],[],[],fp,h=>⟨⟨rfl,h⟩,by simp[dS],rfl⟩
 | .d τ::ks,v::ds,x::xs,fp,h=>by
  obtain⟨_,h2⟩:=h
  obtain⟨k1,k2,k3⟩:=mR.tW h2
  exact⟨k1,k2,k3⟩
 | .o τ::ks,v::ds,x::xs,fp,h=>by
  obtain⟨f1,f2,rfl,⟨e,h1,h2⟩,h3⟩:=h
  obtain⟨k1,k2,k3⟩:=mR.tW h3
  refine⟨⟨x,mO ks xs,f1,f2,rfl,rfl,h2,k1⟩,λ u hu=>?_,by simp[dS,mO,k3]⟩
  rcases a1N.1 hu with rfl|hu
  .rw[e];exact h1
  .exact k2 u hu
 | .p j::ks,ds,x::xs,fp,h=>by
  have h:x = .pointer (some ⟨B j,0,none⟩)/\mR w S B ks ds xs fp:=by cases ds<;>exact h
  obtain⟨k1,k2,k3⟩:=mR.tW h.2
  refine⟨?_,?_,?_⟩<;>cases ds<;>first|exact k1|exact k2|exact k3
 | [],_::_,_,_,h=>h.elim
 | [],[],_::_,_,h=>h.elim
 | .d _::_,[],_,_,h=>by cases h
 | .o _::_,[],_,_,h=>by cases h
 | .d _::_,_::_,[],_,h=>by cases h
 | .o _::_,_::_,[],_,h=>by cases h
 | .p _::_,ds,[],_,h=>by cases ds<;>cases h
theorem AM:∀ (n:Nat) (a b:List TV),bS n (a++b)=bS n a++bS (n+a.length) b
 | n,[],b=>by simp[bS]
 | n,u::a,b=>by
  have:=AM (n+1) a b
  simp only[a2I,bS,this,a2t,a1M]
  rw[show n+1+a.length=n+(a.length+1) by omega]
theorem ss:∀ (n:Nat) (a b:List TV),bU n (a++b)=bU n a++bU (n+a.length) b
 | n,[],b=>by simp[bU]
 | n,u::a,b=>by
  have:=ss (n+1) a b
  simp only[a2I,bU,this,a1M]
  rw[show n+1+a.length=n+(a.length+1) by omega]
theorem dA.append:∀ {a b:List D} {x y:List Value} {f g:List Nat},dA w a x f->dA w b y g->dA w (a++b) (x++y) (f++g)
 | [],b,x,y,f,g,h,k=>by
  obtain⟨rfl,rfl⟩:=h
  exact k
 | d::a,b,x,y,f,g,h,k=>by
  obtain⟨v,r,f1,f2,rfl,rfl,h3,h4⟩:=h
  exact⟨v,r++y,f1,f2++g,rfl,by simp,h3,h4.append k⟩
theorem rz{m:List (Nat×Nat)}{S:Nat->Prop}{B:Nat->Nat}{G':Gh}{lk':Nat->Option au}(hS:∀ b,S b->G'.S b)(hB:∀ j id,ae m j=some id->G'.η id = .pointer (some ⟨B j,0,none⟩)/\im (lk' id)=true) :
  ∀ {ks:List CK} {cs:List AV} {ds:List TV} {n n':Nat} {r:List AV} {os:List (Nat×au)} {l:List Value} {fp:List Nat},bZ m ks cs ds n=some (r,os,n')->mR w S B ks ds l fp->aJ (C1 c G' lk' w) (bU n (dS ks ds)) (mO ks l) ->
   aJ (C1 c G' lk' w) r l
 | [],[],[],n,n',r,os,l,fp,h,hb,hc=>by
  simp only[bZ,a1w,a1y] at h
  obtain⟨rfl,rfl,rfl⟩:=h
  match l,hb with
  | [],_=>trivial
 | .d τ::ks,c0::cs,v::ds,n,n',r,os,l,fp,h,hb,hc=>by
  simp only[bZ] at h
  split at h
  case h_2=>cases h
  case h_1 hv =>
  split at h
  case h_2=>cases h
  case h_1 r1 Ra n1 hr =>
  simp only[a1w,a1y] at h
  obtain⟨rfl,rfl,rfl⟩:=h
  match l,hb with
  | x::l,hb =>
   obtain⟨⟨e,h1,h2⟩,h3⟩:=hb
   exact⟨⟨by rw[e];exact h1,Rd.aQ hS (λ _ _=>rfl) _ h2⟩,rz hS hB hr h3 hc⟩
 | .o τ::ks,c0::cs,v::ds,n,n',r,os,l,fp,h,hb,hc=>by
  simp only[bZ] at h
  split at h
  case h_2=>cases h
  case h_1 hv =>
  split at h
  case h_2=>cases h
  case h_1 r1 Ra n1 hr =>
  simp only[a1w,a1y] at h
  obtain⟨rfl,rfl,rfl⟩:=h
  match l,hb with
  | x::l,hb =>
   obtain⟨f1,f2,rfl,⟨e,h1,h2⟩,h3⟩:=hb
   exact⟨hc.1,rz hS hB hr h3 hc.2⟩
 | .p j::ks,c0::cs,ds,n,n',r,os,l,fp,h,hb,hc=>by
  simp only[bZ] at h
  split at h
  case h_2=>cases h
  case h_1 id =>
  split at h
  case h_2=>cases h
  case h_1 i hi =>
  split at h
  case h_2=>cases h
  case h_1 r1 Ra n1 VC hr =>
  have VC:=a1x VC
  subst VC
  simp only[a1w,a1y] at h
  obtain⟨rfl,rfl,rfl⟩:=h
  match l,hb with
  | x::l,hb =>
   have hb:x = .pointer (some ⟨B j,0,none⟩)/\mR w S B ks ds l fp:=by cases ds<;>exact hb
   have hc:aJ (C1 c G' lk' w) (bU n (dS ks ds)) (mO ks l):=by cases ds<;>exact hc
   obtain⟨q1,q2⟩:=hB j i hi
   exact⟨⟨B j,q1,hb.1,q2⟩,rz hS hB hr hb.2 hc⟩
  | [],hb=>cases ds<;>cases hb
 | [],_::_,_,_,_,_,_,_,_,h,_,_=>by simp[bZ] at h
 | [],[],_::_,_,_,_,_,_,_,h,_,_=>by simp[bZ] at h
 | .d _::_,[],_,_,_,_,_,_,_,h,_,_=>by simp[bZ] at h
 | .o _::_,[],_,_,_,_,_,_,_,h,_,_=>by simp[bZ] at h
 | .p _::_,[],ds,_,_,_,_,_,_,h,_,_=>by cases ds<;>simp[bZ] at h
 | .d _::_,_::_,[],_,_,_,_,_,_,h,_,_=>by simp[bZ] at h
 | .o _::_,_::_,[],_,_,_,_,_,_,h,_,_=>by simp[bZ] at h
theorem uo{m:List (Nat×Nat)}:∀ {ks:List CK} {cs:List AV} {ds:List TV} {n n':Nat} {r:List AV} {os:List (Nat×au)},bZ m ks cs ds n=some (r,os,n')->os=bS n (dS ks ds)/\n'=n+(dS ks ds).length
 | [],[],[],n,n',r,os,h=>by
  simp only[bZ,a1w,a1y] at h
  obtain⟨rfl,rfl,rfl⟩:=h
  exact⟨rfl,rfl⟩
 | .d τ::ks,c0::cs,v::ds,n,n',r,os,h=>by
  simp only[bZ] at h
  split at h
  case h_2=>cases h
  case h_1 hv =>
  split at h
  case h_2=>cases h
  case h_1 r1 Ra n1 hr =>
  simp only[a1w,a1y] at h
  obtain⟨rfl,rfl,rfl⟩:=h
  obtain⟨e1,e2⟩:=uo hr
  exact⟨e1,e2⟩
 | .o τ::ks,c0::cs,v::ds,n,n',r,os,h=>by
  simp only[bZ] at h
  split at h
  case h_2=>cases h
  case h_1 hv =>
  split at h
  case h_2=>cases h
  case h_1 r1 Ra n1 hr =>
  simp only[a1w,a1y] at h
  obtain⟨rfl,rfl,rfl⟩:=h
  obtain⟨e1,e2⟩:=uo hr
  exact⟨by rw[e1];rfl,by rw[e2];simp[dS];omega⟩
 | .p j::ks,c0::cs,ds,n,n',r,os,h=>by
  simp only[bZ] at h
  split at h
  case h_2=>cases h
  case h_1 id =>
  split at h
  case h_2=>cases h
  case h_1 i hi =>
  split at h
  case h_2=>cases h
  case h_1 r1 Ra n1 VC hr =>
  simp only[a1w,a1y] at h
  obtain⟨rfl,rfl,rfl⟩:=h
  obtain⟨e1,e2⟩:=uo hr
  cases ds<;>exact⟨e1,e2⟩
 | [],_::_,_,_,_,_,_,h=>by simp[bZ] at h
 | [],[],_::_,_,_,_,_,h=>by simp[bZ] at h
 | .d _::_,[],_,_,_,_,_,h=>by simp[bZ] at h
 | .o _::_,[],_,_,_,_,_,h=>by simp[bZ] at h
 | .p _::_,[],ds,_,_,_,_,h=>by cases ds<;>simp[bZ] at h
 | .d _::_,_::_,[],_,_,_,_,h=>by simp[bZ] at h
 | .o _::_,_::_,[],_,_,_,_,h=>by simp[bZ] at h
theorem Inv.WW{s1:ag}(h1:Inv c G s1 a w){S' X:Nat->Prop}{B7:Nat->Option au}(hk:cP X w w')(hX:∀ b,X b->c.w0.heap.size<=b\/c.X b)(hXS:∀ b,X b->¬ G.S b)
  (hS:∀ b,G.S b->S' b) (Qx:∀ b,S' b->b<w'.heap.size) (R3:∀ b,b<w.heap.size->¬ X b->(S' b↔G.S b))
  (mX:∀ id,(B7 id=s1.ae id/\∀ o b,s1.ae id=some o->fe (G.η id)=some b->¬ X b) \/
   ∃ cs dV,s1.ae id=some (.box cs)/\B7 id=some (.box dV)/\(∀ b,fe (G.η id)=some b->¬ S' b)/\∃ b l t,G.η id = .pointer (some ⟨b,0,none⟩)/\w'.heap[b]?=some (.cells l.toArray t (0,0))/\∀ (G:Gh) (lk:Nat->Option au),aJ (C1 c G lk w') dV l)
  (AX:∀ id τ xs b,s1.ae id=some (.aq τ xs)->b∈G.φ id->¬ X b):bc c ⟨S',G.η,G.φ⟩ s1.sl s1.ar.length B7 a w':=by
 have fQ:∀ id,ft (s1.ae id) (B7 id):=λ id=>by
  rcases mX id with ⟨e,_⟩|⟨cs,dV,e1,e2,_⟩
  .rw[e];exact ft.refl _
  .rw[e1,e2];exact⟨λ _=>rfl,(λ e τ xs q=>by cases q),(λ q=>by cases q),λ q=>by cases q⟩
 have cy:∀ b,St c G.S b->w'.heap[b]?=w.heap[b]?:=λ b hb=>by
  rcases hb with hb|hb
  .exact hk.block b (h1.ed b hb) λ q=>hXS b q hb
  .exact hk.block b (a2c hb.1 h1.aQ.size) λ q=>(hX b q).elim (λ q=>by omega) hb.2.1
 have hold:∀ id o,B7 id=some o->∃ o',s1.ae id=some o'/\(∀ τ xs,o = .aq τ xs->o' = .aq τ xs):=λ id o ho=>by
  rcases mX id with ⟨e,_⟩|⟨cs,dV,e1,e2,_⟩
  .exact⟨o,by rw[<-e];exact ho,λ τ xs q=>q⟩
  .rw[e2] at ho
   simp only[a1w] at ho
   exact⟨_,e1,λ τ xs q=>by rw[q] at ho;cases ho⟩
 have AW:∀ id τ xs,B7 id=some (.aq τ xs)->s1.ae id=some (.aq τ xs):=λ id τ xs ht=>by
  obtain⟨o',q1,q2⟩:=hold id _ ht
  rw[q1,q2 τ xs rfl]
 exact {
  defers:=h1.defers,size:=h1.size
  aQ:=h1.aQ.trans hk λ i hi hy=>(hX i hy).elim (λ q=>by omega) id
  lE:=h1.lE
  fc:=λ b hb hx=>(R3 b (a2c hb h1.aQ.size) λ q=>(hX b q).elim (λ q=>by omega) hx).trans (h1.fc b hb hx)
  sX:=λ b hb=>hS b (h1.sX b hb)
  ed:=Qx
  ar:=λ i=>(h1.ar i).mono (λ id _=>⟨fQ id,rfl⟩) hS cy
  aC:=λ id o ho=>by
   rcases mX id with ⟨e,e'⟩|⟨cs,dV,e1,e2,_,b,l,t,e3,e4,e5⟩
   .rw[e] at ho
    exact (h1.aC id o ho).mono rfl (λ b hb=>hk.block b (h1.place id o b ho hb).2.2 (e' o b ho hb)) (λ j _=>⟨fQ j,rfl⟩) hS cy
   .rw[e2] at ho
    simp only[a1w] at ho
    subst ho
    exact⟨b,l,t,e3,e4,e5 _ _⟩
  place:=λ id o b ho hb=>by
   obtain⟨o',q1,_⟩:=hold id o ho
   obtain⟨p1,p2,p3⟩:=h1.place id o' b q1 hb
   refine⟨p1,?_,a2c p3 hk.size⟩
   rcases mX id with ⟨e,e'⟩|⟨cs,dV,e1,e2,e3,_⟩
   .exact λ q=>p2 ((R3 b p3 (e' o' b q1 hb)).1 q)
   .exact e3 b hb
  apart:=λ id dH o o' b ho cF hb cm=>by
   obtain⟨p,q1,_⟩:=hold id o ho
   obtain⟨p',q2,_⟩:=hold dH o' cF
   exact h1.apart id dH p p' b q1 q2 hb cm
  aI:={
   tr:=λ id τ xs ht=>(h1.aI.tr id τ xs (AW id τ xs ht)).aQ λ b hb=>hk.block b (h1.aI.pl id τ xs b (AW id τ xs ht) hb).2.2.1 (AX id τ xs b (AW id τ xs ht) hb)
   nd:=λ id τ xs ht=>h1.aI.nd id τ xs (AW id τ xs ht)
   pl:=λ id τ xs b ht hb=>by
    obtain⟨p1,p2,p3,p4⟩:=h1.aI.pl id τ xs b (AW id τ xs ht) hb
    refine⟨p1,λ q=>p2 ((R3 b p3 (AX id τ xs b (AW id τ xs ht) hb)).1 q),a2c p3 hk.size,λ i o ho=>?_⟩
    obtain⟨o',q1,_⟩:=hold i o ho
    exact p4 i o' q1
   ap:=λ id dH τ aV xs cT b ht ni=>h1.aI.ap id dH τ aV xs cT b (AW id τ xs ht) (AW dH aV cT ni) }
  root:=λ id v hr ht=>h1.root id v hr (by
   match hl:B7 id,ht with
   | some (.aq τ xs),_=>rw[AW id τ xs hl];rfl)
  kd:=h1.kd
  dE:=λ id v hr ht=>h1.dE id v hr (by
   rcases mX id with ⟨e,_⟩|⟨cs,dV,e1,e2,_⟩
   .rw[<-e];exact ht
   .rw[e1];rfl)
  fW:=h1.fW }
theorem bc.a0M{sl:Nat->AV}{n:Nat}{lk lk2:Nat->Option au}(h:bc c G sl n lk a w)(mX:∀ id,lk2 id=lk id\/∃ cs dV,lk id=some (.box cs)/\lk2 id=some (.box dV)/\∃ b l t,G.η id = .pointer (some ⟨b,0,none⟩)/\w.heap[b]?=some (.cells l.toArray t (0,0))/\aJ (C1 c G lk2 w) dV l) :
  bc c G sl n lk2 a w:=by
 have fQ:∀ id,ft (lk id) (lk2 id):=λ id=>by
  rcases mX id with e|⟨cs,dV,e1,e2,_⟩
  .rw[e];exact ft.refl _
  .rw[e1,e2];exact⟨λ _=>rfl,(λ e τ xs q=>by cases q),(λ q=>by cases q),λ q=>by cases q⟩
 have hold:∀ id o,lk2 id=some o->∃ o',lk id=some o'/\(∀ τ xs,o = .aq τ xs->o' = .aq τ xs):=λ id o ho=>by
  rcases mX id with e|⟨cs,dV,e1,e2,_⟩
  .exact⟨o,by rw[<-e];exact ho,λ τ xs q=>q⟩
  .rw[e2] at ho
   simp only[a1w] at ho
   exact⟨_,e1,λ τ xs q=>by rw[q] at ho;cases ho⟩
 have AW:∀ id τ xs,lk2 id=some (.aq τ xs)->lk id=some (.aq τ xs):=λ id τ xs ht=>by
  obtain⟨o',q1,q2⟩:=hold id _ ht
  rw[q1,q2 τ xs rfl]
 exact {
  defers:=h.defers,size:=h.size,aQ:=h.aQ,lE:=h.lE,fc:=h.fc,sX:=h.sX,ed:=h.ed
  ar:=λ i=>(h.ar i).mono (λ id _=>⟨fQ id,rfl⟩) (λ _ q=>q) (λ _ _=>rfl)
  aC:=λ id o ho=>by
   rcases mX id with e|⟨cs,dV,e1,e2,b,l,t,e3,e4,e5⟩
   .rw[e] at ho
    exact (h.aC id o ho).mono rfl (λ _ _=>rfl) (λ j _=>⟨fQ j,rfl⟩) (λ _ q=>q) (λ _ _=>rfl)
   .rw[e2] at ho
    simp only[a1w] at ho
    subst ho
    exact⟨b,l,t,e3,e4,e5⟩
  place:=λ id o b ho hb=>by
   obtain⟨o',q1,_⟩:=hold id o ho
   exact h.place id o' b q1 hb
  apart:=λ id dH o o' b ho cF hb cm=>by
   obtain⟨p,q1,_⟩:=hold id o ho
   obtain⟨p',q2,_⟩:=hold dH o' cF
   exact h.apart id dH p p' b q1 q2 hb cm
  aI:={
   tr:=λ id τ xs ht=>h.aI.tr id τ xs (AW id τ xs ht)
   nd:=λ id τ xs ht=>h.aI.nd id τ xs (AW id τ xs ht)
   pl:=λ id τ xs b ht hb=>by
    obtain⟨p1,p2,p3,p4⟩:=h.aI.pl id τ xs b (AW id τ xs ht) hb
    refine⟨p1,p2,p3,λ i o ho=>?_⟩
    obtain⟨o',q1,_⟩:=hold i o ho
    exact p4 i o' q1
   ap:=λ id dH τ aV xs cT b ht ni=>h.aI.ap id dH τ aV xs cT b (AW id τ xs ht) (AW dH aV cT ni) }
  root:=λ id v hr ht=>h.root id v hr (by
   match hl:lk2 id,ht with
   | some (.aq τ xs),_=>rw[AW id τ xs hl];rfl)
  kd:=h.kd
  dE:=λ id v hr ht=>h.dE id v hr (by
   rcases mX id with e|⟨cs,dV,e1,e2,_⟩
   .rw[<-e];exact ht
   .rw[e1];rfl)
  fW:=h.fW }
theorem Ce{m:List (Nat×Nat)}{S:Nat->Prop}{B:Nat->Nat}{lk:Nat->Option au}:∀ {sh:List (List CK)} {k:Nat} {bN:List (List TV)} {n:Nat} {bs ts:List (Nat×au)} {fp:List Nat},sn lk m sh k bN n=some (bs,ts)->kz w S B k sh bN fp ->
  ∃ tW xs,ts=bS n tW/\dA w (tW.map TV.aT) xs fp/\(∀ u∈tW,u.τ.agg=false) /\
   (∀ j,k<=j->j<k+sh.length->∃ (id:Nat) (dV:List AV) (l:List Value) (t:TypeId),ae m j=some id/\(id,au.box dV)∈bs/\w.heap[B j]?=some (.cells l.toArray t (0,0))/\l.length=dV.length) /\
   (∀ p∈bs,∃ (j:Nat) (dV:List AV) (l:List Value) (t:TypeId),k<=j/\j<k+sh.length/\ae m j=some p.1/\p.2 = .box dV/\w.heap[B j]?=some (.cells l.toArray t (0,0))/\l.length=dV.length /\
    ∀ (G':Gh) (lk':Nat->Option au),(∀ b,S b->G'.S b)->(∀ j id,ae m j=some id->G'.η id = .pointer (some ⟨B j,0,none⟩)/\im (lk' id)=true)->aJ (C1 c G' lk' w) (bU n tW) xs->aJ (C1 c G' lk' w) dV l)
 | [],k,[],n,bs,ts,fp,h,hb=>by
  simp only[sn,a1w,a1y] at h
  obtain⟨rfl,rfl⟩:=h
  exact⟨[],[],rfl,⟨rfl,hb⟩,by simp,λ j h1 h2=>by simp at h2;omega,by simp⟩
 | ks::sh,k,ds::bN,n,bs,ts,fp,h,hb=>by
  simp only[sn] at h
  split at h
  case h_2=>cases h
  case h_1 id aN =>
  split at h
  case h_2=>cases h
  case h_1 cs lU =>
  split at h
  case h_2=>cases h
  case h_1 r os n1 hr =>
  split at h
  case h_2=>cases h
  case h_1 bs1 ts1 Sf =>
  simp only[a1w,a1y] at h
  obtain⟨rfl,rfl⟩:=h
  obtain⟨l,t,f1,f2,rfl,hw,hB,YR⟩:=hb
  obtain⟨e1,e2⟩:=uo hr
  obtain⟨tW,xs,q1,q2,q3,q4,q5⟩:=Ce Sf YR
  obtain⟨o1,o2,o3⟩:=hB.tW
  have wo:∀ {G':Gh} {lk':Nat->Option au},aJ (C1 c G' lk' w) (bU n (dS ks ds++tW)) (mO ks l++xs)->aJ (C1 c G' lk' w) (bU n (dS ks ds)) (mO ks l)/\aJ (C1 c G' lk' w) (bU n1 tW) xs:=λ {G' lk'} q=>by
   rw[ss,<-e2] at q
   have hl:(bU n (dS ks ds)).length=(mO ks l).length:=by
    rw[<-o3]
    have:∀ (us:List TV) (n:Nat),(bU n us).length=us.length:=λ us=>by
     induction us with
     | nil=>intro n;rfl
     | cons u us ih=>intro n;simp[bU,ih]
    exact this _ _
   have h1:=q.take (bU n (dS ks ds)).length
   have h2:=q.drop (bU n (dS ks ds)).length
   rw[a3F,hl,a3F] at h1
   rw[a3E,hl,a3E] at h2
   exact⟨h1,h2⟩
  have VX:l.length=r.length:=by
   have:∀ {ks:List CK} {cs:List AV} {ds:List TV} {n n':Nat} {r:List AV} {os:List (Nat×au)} {l:List Value} {fp:List Nat},bZ m ks cs ds n=some (r,os,n')->mR w S B ks ds l fp->l.length=r.length:=by
    intro ks
    induction ks with
    | nil =>
     intro cs ds n n' r os l fp h hb
     cases cs<;>cases ds<;>simp[bZ] at h
     obtain⟨rfl,_⟩:=h
     cases l with
     | nil=>rfl
     | cons x l=>cases hb
    | cons k0 ks ih =>
     intro cs ds n n' r os l fp h hb
     cases l with
     | nil=>cases k0<;>cases ds<;>cases hb
     | cons x l =>
      cases k0 with
      | d τ =>
       cases cs with
       | nil=>simp[bZ] at h
       | cons c0 cs =>
        cases ds with
        | nil=>cases hb
        | cons v ds =>
         simp only[bZ] at h
         split at h
         case h_2=>cases h
         case h_1 hv =>
         split at h
         case h_2=>cases h
         case h_1 r1 Ra n1 hr =>
         simp only[a1w,a1y] at h
         obtain⟨rfl,rfl,rfl⟩:=h
         obtain⟨_,h2⟩:=hb
         simp[ih hr h2]
      | o τ =>
       cases cs with
       | nil=>simp[bZ] at h
       | cons c0 cs =>
        cases ds with
        | nil=>cases hb
        | cons v ds =>
         simp only[bZ] at h
         split at h
         case h_2=>cases h
         case h_1 hv =>
         split at h
         case h_2=>cases h
         case h_1 r1 Ra n1 hr =>
         simp only[a1w,a1y] at h
         obtain⟨rfl,rfl,rfl⟩:=h
         obtain⟨_,_,_,_,h2⟩:=hb
         simp[ih hr h2]
      | p j =>
       cases cs with
       | nil=>cases ds<;>simp[bZ] at h
       | cons c0 cs =>
        have hb:x = .pointer (some ⟨B j,0,none⟩)/\mR w S B ks ds l fp:=by cases ds<;>exact hb
        simp only[bZ] at h
        split at h
        case h_2=>cases h
        case h_1 id =>
        split at h
        case h_2=>cases h
        case h_1 i hi =>
        split at h
        case h_2=>cases h
        case h_1 r1 Ra n1 VC hr =>
        simp only[a1w,a1y] at h
        obtain⟨rfl,rfl,rfl⟩:=h
        simp[ih hr hb.2]
   exact this hr hB
  refine⟨dS ks ds++tW,mO ks l++xs,by rw[AM,e1,q1,e2],by rw[a3s];exact o1.append q2,λ u hu=>(a1A.1 hu).elim (o2 u) (q3 u),λ j h1 h2=>?_,λ p hp=>?_⟩
  .by_cases hj:j=k
   .subst hj
    exact⟨id,r,l,t,aN,a4w ..,hw,VX⟩
   .obtain⟨dH,dV,l',t',g1,g2,g3,g4⟩:=q4 j (by omega) (by simp at h2;omega)
    exact⟨dH,dV,l',t',g1,a3m _ g2,g3,g4⟩
  .rcases a1N.1 hp with rfl|hp
   .exact⟨k,r,l,t,a2u _,by simp,aN,rfl,hw,VX,λ G' lk' h1 h2 h3=>rz h1 h2 hr hB (wo h3).1⟩
   .obtain⟨j,dV,l',t',g1,g2,g3,g4,g5,g7,g6⟩:=q5 p hp
    exact⟨j,dV,l',t',by omega,by simp;omega,g3,g4,g5,g7,λ G' lk' h1 h2 h3=>g6 G' lk' h1 h2 (wo h3).2⟩
 | [],_,_::_,_,_,_,_,h,_=>by simp[sn] at h
 | _::_,_,[],_,_,_,_,h,_=>by simp[sn] at h
theorem s9{α:Type}:∀ {l:List (Nat×α)} {k:Nat},(∀ p∈l,p.1≠k)->ae l k=none
 | [],k,_=>rfl
 | (j,o)::l,k,h=>by
  rw[qs,a1B (λ e=>h (j,o) (by simp) e.symm)]
  exact s9 λ p hp=>h p (by simp[hp])
theorem B8:∀ (ids:List Nat) (l:List (Nat×au)) (i:Nat),ae (iL ids l) i=if i∈ids then none else ae l i
 | [],l,i=>by simp[iL]
 | id::r,l,i=>by
  rw[iL,B8 r,fj]
  by_cases h1:i∈r
  .simp[h1]
  .by_cases h2:i=id
   .simp[h1,h2]
   .simp[h1,h2]
theorem CM{m:List (Nat×Nat)}(h2:(m.map (·.2)).Nodup){j k id:Nat}(hj:ae m j=some id)(hk:ae m k=some id):j=k:=by
 have e1:=fS hj
 have e2:=fS hk
 have:(j,id)=(k,id):=by
  clear hj hk
  induction m with
  | nil=>cases e1
  | cons p m ih =>
   simp only[a2p,a2o] at h2
   rcases a1N.1 e1 with q1|e1
   .rcases a1N.1 e2 with q2|e2
    .rw[q1,q2]
    .exact absurd (a1D.2 ⟨(k,id),e2,by rw[<-q1]⟩) h2.1
   .rcases a1N.1 e2 with q2|e2
    .exact absurd (a1D.2 ⟨(j,id),e1,by rw[<-q2]⟩) h2.1
    .exact ih h2.2 e1 e2
 exact congrArg Prod.fst this
theorem xg{m:List (Nat×Nat)}{k id:Nat}(h:ae m k=some id):id∈m.map (·.2):=a1D.2 ⟨_,fS h,rfl⟩
theorem Uf{m:List (Nat×Nat)}{n:Nat}(h1:(m.map (·.1)).Nodup)(hl:m.length=n)(hk:∀ k,k<n->∃ id,ae m k=some id):∀ p∈m,p.1<n:=by
 have sZ:List.range n ⊆ m.map (·.1):=λ k oW=>by
  obtain⟨id,q⟩:=hk k (a3I.1 oW)
  exact a1D.2 ⟨_,fS q,rfl⟩
 have Ik:(m.map (·.1)) ⊆ List.range n:=by
  intro x hx
  refine a4t λ hn=>?_
  have h3:(x::List.range n).Nodup:=a2o.2 ⟨hn,a4A⟩
  have h4:(x::List.range n) ⊆ m.map (·.1):=λ y hy=>(a1N.1 hy).elim (λ e=>e ▸ hx) (λ hy=>sZ hy)
  have:=a3X h3 h4
  simp at this
  omega
 exact λ p hp=>a3I.1 (Ik (a1D.2 ⟨p,hp,rfl⟩))
theorem SV(hE:bD c.P c.E)(h:Inv c G s a w){o:Oper}{vc:Vc}{s':ag}(hq:PN c.E s o=some (vc,s'))(fi:vc.ok){Q:Exit->Act->World->Prop} :
  o.wp c.P a w (λ a' w'=>∃ G',Inv c G' s' a' w') Q:=by
 unfold PN at hq
 split at hq
 case h_2=>cases hq
 case h_1 d hd =>
 split at hq
 case h_2=>cases hq
 case h_1 cl bl =>
 split at hq
 case h_2=>cases hq
 case h_1 f ku =>
 split at hq
 case h_2=>cases hq
 case h_1 sk hsk =>
 split at hq
 case h_2=>cases hq
 case h_1 m0 Zd =>
 split at hq
 case h_2=>cases hq
 case h_1 bN ids m hm =>
 split at hq
 case h_2=>cases hq
 case h_1 Ya =>
 split at hq
 case h_2=>cases hq
 case h_1 Z9 has =>
 split at hq
 case h_2=>cases hq
 case h_1 pre res gw hc =>
 split at hq
 case h_2=>cases hq
 case h_1 bs ts rM =>
 split at hq
 case h_2=>cases hq
 case h_1 Dt =>
 simp only[a1w,a1y] at hq
 obtain⟨rfl,rfl⟩:=hq
 simp only[a1z] at Ya
 obtain⟨GM,GN,T5,Zf⟩:=Ya
 have GM:=cY GM
 have GN:=cY GN
 have T5:=cY T5
 have Zf:=a1x Zf
 simp only[a1z,a2e] at Dt
 have tC:∀ p∈bg (bM d) res++ts,(ids.foldl ag.gone s).ae p.1=none:=λ p hp=>by simpa using Dt.1 p hp
 have rL:=cY Dt.2
 obtain⟨oU,kl⟩:=hE.Oq f sk Z9 bN pre res gw hsk hc fi
 obtain⟨_,R6⟩:=uA Zd
 obtain⟨T9,Pa,fa,Qw,QD,a0t⟩:=tO h hm GM
 have Qw:=Qw m (mS.refl m)
 have R6:∀ (i k:Nat),sk.ps[i]?=some (some k)->∃ id,(cl.args.toList.map s.eval)[i]?=some (AV.ptr id 0)/\ae m k=some id:=λ i k q=>by
  obtain⟨id,q1,q2⟩:=R6 i k q
  exact⟨id,q1,T9 k id q2⟩
 have h1:Inv c G (ids.foldl ag.gone s) a w:=uL ids h
 have hF:∀ b,b∈fa->tX c G (ids.foldl ag.gone s).ae w b:=λ b hb=>Gp h (a0t b hb)
 have zy:∀ k,k<sk.sh.length->∃ (id:Nat) (cs:List AV),ae m k=some id/\(ids.foldl ag.gone s).ae id=some (.box cs):=λ k hk=>by
  obtain⟨id,cs,q1,q2⟩:=Pa k (Nat.zero_le _) (by simpa using hk)
  refine⟨id,?_⟩
  have aN:id∉ids:=λ hi=>by
   have:∀ {sh:List (List CK)} {k:Nat} {m m':List (Nat×Nat)} {bN:List (List TV)} {ids:List Nat},kq s.ae sh k m=some (bN,ids,m')->∀ i∈ids,∀ cs,s.ae i≠some (.box cs):=by
    have tA:∀ {ks:List CK} {cs:List AV} {m m':List (Nat×Nat)} {ds:List TV} {ids:List Nat},dj s.ae ks cs m=some (ds,ids,m')->∀ i∈ids,∀ cs,s.ae i≠some (.box cs):=by
     intro ks
     induction ks with
     | nil =>
      intro cs m m' ds ids ht
      cases cs<;>simp[dj] at ht
      obtain⟨_,rfl,_⟩:=ht
      simp
     | cons k0 ks ih =>
      intro cs m m' ds ids ht
      cases cs with
      | nil=>cases k0<;>simp[dj] at ht
      | cons v cs =>
       cases k0 with
       | d τ =>
        simp only[dj] at ht
        split at ht
        case h_2=>cases ht
        case h_1 y hy tR =>
        split at ht
        case h_2=>cases ht
        case h_1 YG QS m1 hr =>
        simp only[a1w,a1y] at ht
        obtain⟨_,rfl,_⟩:=ht
        exact ih hr
       | o τ =>
        simp only[dj] at ht
        split at ht
        case h_2=>cases ht
        case h_1 y i hy tR =>
        split at ht
        case h_2=>cases ht
        case h_1 YG QS m1 hr =>
        simp only[a1w,a1y] at ht
        obtain⟨_,rfl,_⟩:=ht
        intro j hj OU
        rcases a1A.1 hj with hj|hj
        .unfold eK at hy
         split at hy
         .split at hy
          .simp only[a1w,a1y] at hy
           obtain⟨_,rfl⟩:=hy
           cases hj
          .cases hy
         .split at hy
          .simp only[a1w,a1y] at hy
           obtain⟨_,rfl⟩:=hy
           cases hj
          .cases hy
         .split at hy
          .rename_i hl
           split at hy
           .simp only[a1w,a1y] at hy
            obtain⟨_,rfl⟩:=hy
            simp only[a2g] at hj
            subst hj
            rw[hl]
            simp
           .cases hy
          .cases hy
         .split at hy
          .rename_i hl
           split at hy
           .simp only[a1w,a1y] at hy
            obtain⟨_,rfl⟩:=hy
            simp only[a2g] at hj
            subst hj
            rw[hl]
            simp
           .cases hy
          .cases hy
         .cases hy
        .exact ih hr j hj OU
       | p j =>
        simp only[dj] at ht
        split at ht
        case h_2=>cases ht
        case h_1 id =>
        split at ht
        .split at ht
         .exact ih ht
         .cases ht
        .exact ih ht
    intro sh
    induction sh with
    | nil =>
     intro k m m' bN ids ht
     simp only[kq,a1w,a1y] at ht
     obtain⟨_,rfl,_⟩:=ht
     simp
    | cons ks sh ih =>
     intro k m m' bN ids ht
     simp only[kq] at ht
     split at ht
     case h_2=>cases ht
     case h_1 id aN =>
     split at ht
     case h_2=>cases ht
     case h_1 cs lU =>
     split at ht
     case h_2=>cases ht
     case h_1 ds i m1 hr =>
     split at ht
     case h_2=>cases ht
     case h_1 a0d QS m2 Sf =>
     simp only[a1w,a1y] at ht
     obtain⟨_,rfl,_⟩:=ht
     intro j hj OU
     rcases a1A.1 hj with hj|hj
     .exact tA hr j hj OU
     .exact ih Sf j hj OU
   exact this hm id hi cs q2
  have:∀ (ids:List Nat) (s:ag) (cs:List AV),id∉ids->s.ae id=some (.box cs)->∃ dV,(ids.foldl ag.gone s).ae id=some (.box dV):=by
   intro ids
   induction ids with
   | nil=>intro s cs _ hs;exact⟨cs,hs⟩
   | cons i ids ih =>
    intro s cs hi hs
    have fP:id≠i:=λ e=>hi (by simp[e])
    refine ih (s.gone i) (cs.map (AV.kill i)) (λ q=>hi (by simp[q])) ?_
    rw[zG,a1B fP,hs]
    rfl
  obtain⟨dV,q3⟩:=this ids s cs aN q2
  exact⟨dV,q1,q3⟩
 generalize Sg:ids.foldl ag.gone s=s1 at *
 have fB:∀ k id,ae m k=some id->k<sk.sh.length->G.η id = .pointer (some ⟨oa G m k,0,none⟩)/\fe (G.η id)=some (oa G m k):=λ k id hk bC=>by
  obtain⟨dH,cs,q1,q2⟩:=zy k bC
  rw[hk] at q1
  simp only[a1w] at q1
  subst q1
  obtain⟨b,l,t,k1,_⟩:=h1.aC id _ q2
  have:oa G m k=b:=by
   simp only[oa,hk,k1]
   rfl
  rw[this,k1]
  exact⟨rfl,rfl⟩
 have nw:=Uf GN Zf (λ k hk=>by obtain⟨id,_,q,_⟩:=zy k hk;exact⟨id,q⟩)
 have VP:∀ id,id∈m.map (·.2)->∃ k cs,k<sk.sh.length/\ae m k=some id/\s1.ae id=some (.box cs):=λ id aN=>by
  obtain⟨⟨k,dH⟩,hp,rfl⟩:=a1D.1 aN
  have hk:=nw _ hp
  have hl:=uk GN hp
  obtain⟨id2,cs,q1,q2⟩:=zy k hk
  rw[hl] at q1
  simp only[a1w] at q1
  subst q1
  exact⟨k,cs,hk,hl,q2⟩
 have GI:∀ j k,j<sk.sh.length->k<sk.sh.length->oa G m j=oa G m k->j=k:=λ j k hj hk e=>by
  obtain⟨idj,csj,j1,j2⟩:=zy j hj
  obtain⟨idk,csk,k1,k2⟩:=zy k hk
  have:=h1.apart idj idk _ _ (oa G m j) j2 k2 (fB j idj j1 hj).2 (by rw[e];exact (fB k idk k1 hk).2)
  subst this
  exact CM T5 j1 k1
 have Te:∀ k,k<sk.sh.length->(c.w0.heap.size<=oa G m k\/c.X (oa G m k))/\¬ G.S (oa G m k)/\oa G m k<w.heap.size:=λ k hk=>by
  obtain⟨id,cs,k1,k2⟩:=zy k hk
  exact h1.place id _ _ k2 (fB k id k1 hk).2
 have a0s:∀ b∈fa,∀ k,k<sk.sh.length->oa G m k≠b:=λ b hb k hk e=>by
  obtain⟨id,cs,k1,k2⟩:=zy k hk
  exact (hF b hb).2.2.2.1 id _ k2 (by rw[<-e];exact (fB k id k1 hk).2)
 have YO:∀ b,BX sk.sh.length (oa G m) fa b->(c.w0.heap.size<=b\/c.X b)/\¬ G.S b:=λ b hb=>by
  rcases hb with hb|⟨k,hk,rfl⟩
  .exact⟨(hF b hb).1,(hF b hb).2.1⟩
  .exact⟨(Te k hk).1,(Te k hk).2.1⟩
 have LC:∀ b,BX sk.sh.length (oa G m) fa b->¬ St c G.S b:=λ b hb q=>by
  obtain⟨q1,q2⟩:=YO b hb
  rcases q with q|⟨q,q3,_⟩
  .exact q2 q
  .exact q1.elim (λ q=>by omega) q3
 have BL:∀ id o b,id∉m.map (·.2)->s1.ae id=some o->fe (G.η id)=some b->¬ BX sk.sh.length (oa G m) fa b:=λ id o b aN ho hb q=>by
  rcases q with q|⟨k,hk,rfl⟩
  .exact (hF b q).2.2.2.1 id _ ho hb
  .obtain⟨dH,cs,k1,k2⟩:=zy k hk
   have:=h1.apart id dH _ _ _ ho k2 hb (fB k dH k1 hk).2
   subst this
   exact aN (xg k1)
 have a0i:∀ id τ xs b,s1.ae id=some (.aq τ xs)->b∈G.φ id->¬ BX sk.sh.length (oa G m) fa b:=λ id τ xs b ht hb q=>by
  rcases q with q|⟨k,hk,rfl⟩
  .exact (hF b q).2.2.2.2 id τ xs ht hb
  .obtain⟨dH,cs,k1,k2⟩:=zy k hk
   exact (h1.aI.pl id τ xs _ ht hb).2.2.2 dH _ k2 (fB k dH k1 hk).2
 have e7:=Cr hE h1 (mf:=m) LC (λ id cs b ho hb=>BL id _ b (qE ho).2.1 (qE ho).1 hb) (lk0:=s.ae) has (aJ.pI (bf h1) cl.args.toList) (aJ.pI (bf h) cl.args.toList) R6
 unfold Oper.wp
 rw[ji bl ku rfl oU]
 simp only[Oper.upon]
 refine (kl w G.S (oa G m) _ fa h1.SU Qw QD (λ b hb=>⟨(hF b hb).2.2.1,(hF b hb).2.1,a0s b hb⟩) (λ k hk=>⟨(Te k hk).2.2,(Te k hk).2.1⟩) GI e7).mono ?_
 rintro e w' ⟨x,S',fp,H8,rfl,hk,W8,W9,hS3,hO,hB',dq,qW,hBS⟩
 obtain⟨tW,xs,e1,e2,e3,e4,e5⟩:=Ce rM hB'
 let B7:Nat->Option au:=λ i=>match ae bs i with
  | some (.box cs)=>some (.box (List.replicate cs.length .any))
  | _=>s1.ae i
 have Pb:∀ id,id∈m.map (·.2)->∃ (k:Nat) (dV:List AV),k<sk.sh.length/\ae m k=some id/\ae bs id=some (.box dV)/\∃ (l:List Value) (t:TypeId),w'.heap[oa G m k]?=some (.cells l.toArray t (0,0))/\l.length=dV.length:=λ id aN=>by
  obtain⟨k,cs,k1,k2,k3⟩:=VP id aN
  obtain⟨dH,dV,l,t,g1,g2,g3,g4⟩:=e4 k (Nat.zero_le _) (by simpa using k1)
  rw[k2] at g1
  simp only[a1w] at g1
  subst g1
  have cu:∃ o,ae bs id=some o:=by
   cases hl:ae bs id with
   | some o=>exact⟨o,rfl⟩
   | none =>
    exfalso
    have:∀ {l:List (Nat×au)} {k:Nat},ae l k=none->∀ p∈l,p.1≠k:=by
     intro l
     induction l with
     | nil=>intro k _ p hp;cases hp
     | cons q l ih =>
      intro k hq p hp
      obtain⟨j,o⟩:=q
      rw[qs] at hq
      split at hq
      .cases hq
      .rename_i fP
       rcases a1N.1 hp with rfl|hp
       .exact λ e=>fP e.symm
       .exact ih hq p hp
    exact this hl _ g2 rfl
  obtain⟨o,ho⟩:=cu
  obtain⟨j,OU,l2,t2,_,j2,j3,j4,j5,j6,_⟩:=e5 _ (fS ho)
  have:j=k:=CM T5 j3 k2
  subst this
  simp only at j4
  subst j4
  exact⟨j,OU,k1,k2,ho,l2,t2,j5,j6⟩
 have X8:∀ id,id∉m.map (·.2)->ae bs id=none:=λ id aN=>s9 λ p hp e=>by
  obtain⟨j,_,_,_,_,_,j3,_⟩:=e5 p hp
  exact aN (e ▸ xg j3)
 have N3:∀ id,id∉m.map (·.2)->B7 id=s1.ae id:=λ id aN=>by simp only[B7,X8 id aN]
 have VL:∀ id k dV,ae m k=some id->ae bs id=some (.box dV)->B7 id=some (.box (List.replicate dV.length .any)):=λ id k dV _ hb=>by simp only[B7,hb]
 have hA:bc c ⟨S',G.η,G.φ⟩ s1.sl s1.ar.length B7 a w':=by
  refine Inv.WW h1 (X:=BX sk.sh.length (oa G m) fa) hk (λ b hb=>(YO b hb).1) (λ b hb=>(YO b hb).2) W8 W9 hS3 (λ id=>?_) a0i
  by_cases aN:id∈m.map (·.2)
  .obtain⟨k,dV,q1,q2,q3,l,t,q4,q5⟩:=Pb id aN
   obtain⟨_,cs,_,_,q6⟩:=VP id aN
   obtain⟨g1,g2⟩:=fB k id q2 q1
   refine .inr ⟨cs,_,q6,VL id k dV q2 q3,λ b hb=>?_,oa G m k,l,t,g1,q4,λ G' lk'=>?_⟩
   .rw[g2] at hb
    simp only[a1w] at hb
    subst hb
    exact hBS k q1
   .have:∀ (l:List Value),aJ (C1 c G' lk' w') (List.replicate l.length .any) l:=λ l=>by
     induction l with
     | nil=>exact trivial
     | cons x l ih=>exact⟨trivial,ih⟩
    rw[<-q5]
    exact this l
  .exact .inl ⟨N3 id aN,λ o b ho hb=>BL id o b aN ho hb⟩
 have VT:∀ p∈bg (bM d) res++ts,p.1∉m.map (·.2):=λ p hp aN=>by
  obtain⟨_,cs,_,_,q⟩:=VP p.1 aN
  rw[tC p hp] at q
  cases q
 rw[a1X] at dq
 obtain⟨Sx,Sy,Q3⟩:=dq
 rw[a3s,a1X] at rL
 obtain⟨dd1,dd2,YF⟩:=rL
 have TS:Fr c ⟨S',G.η,G.φ⟩ B7 w' (fp++H8):=λ b hb=>by
  obtain⟨q1,q2,q3⟩:=qW b hb
  have qT:∀ i o,B7 i=some o->fe (G.η i)≠some b:=λ i o cr e=>by
   by_cases aN:i∈m.map (·.2)
   .obtain⟨k,dV,g1,g2,_⟩:=Pb i aN
    rw[(fB k i g2 g1).2] at e
    simp only[a1w] at e
    exact q3 k g1 e
   .rw[N3 i aN] at cr
    rcases q1 with q1|⟨q1,_⟩
    .exact (hF b q1).2.2.2.1 i o cr e
    .have:=(h1.place i o b cr e).2.2;omega
  have hbt:∀ j τ zs,B7 j=some (.aq τ zs)->b∉G.φ j:=λ j τ zs hj oT=>by
   by_cases aN:j∈m.map (·.2)
   .obtain⟨k,dV,g1,g2,g3,_⟩:=Pb j aN
    rw[VL j k dV g2 g3] at hj
    cases hj
   .rw[N3 j aN] at hj
    rcases q1 with q1|⟨q1,_⟩
    .exact (hF b q1).2.2.2.2 j τ zs hj oT
    .have:=(h1.aI.pl j τ zs b hj oT).2.2.1;omega
  rcases q1 with q1|⟨q1,Us⟩
  .exact⟨(hF b q1).1,q2,a2c (hF b q1).2.2.1 hk.size,qT,hbt⟩
  .exact⟨.inl (a4a h1.aQ.size q1),q2,Us,qT,hbt⟩
 have Ih:∀ j,bM d<=j->c.R j=none:=λ j hj=>by
  cases hr:c.R j with
  | none=>rfl
  | some v=>have:=h.kd j v hr;unfold bM at hj;omega
 obtain⟨ys,qM,J3⟩:=Fl (c:=c) (id:=bM d) hO
 obtain⟨G1,yL,k1,k2,k3,k4,k5⟩:=hA.FJ (id:=bM d) qM Sx (λ b hb=>TS b (by simp[hb])) (λ p hp=>by
  rw[N3 p.1 (VT p (by simp[hp]))]
  exact tC p (by simp[hp])) dd1 Ih
 rw[e1] at dd2 YF tC VT
 obtain⟨G2,lk2,p1,p2,p3,p4,_⟩:=k2.xR (us:=tW) (cs:=xs) (fp:=H8) (id:=bM d+60) e3 e2 Sy (k5 H8 (λ b hb=>TS b (by simp[hb])) λ b hb cm=>Q3 b cm b hb rfl) (λ p hp=>by
  rw[k1 p.1]
  unfold iD
  rw[s9 (l:=bg (bM d) res) λ q hq e=>YF q.1 (a1D.2 ⟨q,hq,rfl⟩) p.1 (a1D.2 ⟨p,hp,rfl⟩) e]
  simp only
  rw[N3 p.1 (VT p (by simp[hp]))]
  exact tC p (by simp[hp])) dd2 (λ j hj=>Ih j (by omega))
 have a0F:VR c G2 lk2 w' (me (bM d) res) x:=J3 G2 lk2 (k4.imp λ u y _ hy=>hy.ext p3)
 have uW:=bc.put (d:=some d) p2 a0F
 have Yc:∀ i,ag.ae { ar:=s1.ar.set d (me (bM d) res),aC:=bs++(bg (bM d) res++ts)++iL (m.map (·.2)) s1.aC } i=iD bs (iD (bg (bM d) res) (iD ts (λ i=>if i∈m.map (·.2) then none else s1.ae i))) i:=λ i=>by
  show ae (bs++(bg (bM d) res++ts)++iL (m.map (·.2)) s1.aC) i=_
  rw[a2t,qq,show ae (bg (bM d) res++ts++iL (m.map (·.2)) s1.aC)=iD (bg (bM d) res) (iD ts (λ i=>if i∈m.map (·.2) then none else s1.ae i)) from funext λ j=>by
   rw[a2t,qq,show ae (ts++iL (m.map (·.2)) s1.aC)=iD ts (λ i=>if i∈m.map (·.2) then none else s1.ae i) from funext λ j=>by
    rw[qq,show ae (iL (m.map (·.2)) s1.aC)=(λ i=>if i∈m.map (·.2) then none else s1.ae i) from funext λ j=>B8 _ _ j]]]
 generalize cy:({ ar:=s1.ar.set d (me (bM d) res),aC:=bs++(bg (bM d) res++ts)++iL (m.map (·.2)) s1.aC }:ag)=s2 at *
 have a0w:∀ i,lk2 i=iD ts (iD (bg (bM d) res) B7) i:=λ i=>by
  rw[p1 i,e1]
  unfold iD
  rw[k1 i]
  rfl
 have N4:∀ i,i∉m.map (·.2)->s2.ae i=lk2 i:=λ i aN=>by
  rw[Yc i,a0w i]
  unfold iD
  rw[X8 i aN,N3 i aN]
  simp only[a1B aN]
  cases hV:ae (bg (bM d) res) i with
  | none=>rfl
  | some o =>
   rw[s9 (l:=ts) λ q hq e=>YF i (a1D.2 ⟨(i,o),fS hV,rfl⟩) q.1 (a1D.2 ⟨q,by rw[<-e1];exact hq,rfl⟩) e.symm]
 have gQ:∀ i,i∈m.map (·.2)->∃ k dV,k<sk.sh.length/\ae m k=some i/\ae bs i=some (.box dV)/\lk2 i=some (.box (List.replicate dV.length .any))/\s2.ae i=some (.box dV)/\G2.η i = .pointer (some ⟨oa G m k,0,none⟩):=λ i aN=>by
  obtain⟨k,dV,q1,q2,q3,_⟩:=Pb i aN
  have Vr:=VL i k dV q2 q3
  obtain⟨r1,r2,_⟩:=(k3.trans p3).Up i _ Vr
  refine⟨k,dV,q1,q2,q3,r1,?_,by rw[r2];exact (fB k i q2 q1).1⟩
  rw[Yc i]
  unfold iD
  rw[q3]
 have fQ:∀ i,ft (lk2 i) (s2.ae i):=λ i=>by
  by_cases aN:i∈m.map (·.2)
  .obtain⟨k,dV,_,_,_,q4,q5,_⟩:=gQ i aN
   rw[q4,q5]
   exact⟨λ _=>rfl,(λ e τ xs q=>by cases q),(λ q=>by cases q),λ q=>by cases q⟩
  .rw[N4 i aN];exact ft.refl _
 have Y9:=bc.a0M (lk2:=s2.ae) uW (λ i=>by
  by_cases aN:i∈m.map (·.2)
  .obtain⟨k,dV,q1,q2,q3,q4,q5,q6⟩:=gQ i aN
   obtain⟨j,OU,l,t,_,j2,j3,j4,j5,_,j7⟩:=e5 _ (fS q3)
   have:j=k:=CM T5 j3 q2
   subst this
   simp only[au.box.injEq] at j4
   subst j4
   refine .inr ⟨_,_,q4,q5,oa G m j,l,t,q6,j5,?_⟩
   refine j7 G2 s2.ae (λ b hb=>by rw[p3.S,k3.S];exact hb) (λ j' id BP=>?_) (p4.imp λ u y _ hy=>hy.mono (λ i _=>⟨fQ i,rfl⟩) (λ _ q=>q) (λ _ _=>rfl))
   obtain⟨k',a1s,g1,g2,_,_,g5,g6⟩:=gQ id (xg BP)
   have:j'=k':=CM T5 BP g2
   subst this
   exact⟨g6,by rw[g5];rfl⟩
  .exact .inl (N4 i aN))
 refine⟨G2,?_⟩
 unfold Inv
 rw[hd,<-cy,show ag.sl { ar:=s1.ar.set d (me (bM d) res),aC:=bs++(bg (bM d) res++ts)++iL (m.map (·.2)) s1.aC }=lN s1.ar.length s1.sl (some d) (me (bM d) res) from rD s1.ar d _ _,
  show ({ ar:=s1.ar.set d (me (bM d) res),aC:=bs++(bg (bM d) res++ts)++iL (m.map (·.2)) s1.aC }:ag).ar.length=s1.ar.length from by simp,cy]
 exact Y9
end
end Go.Proofs.YtaaamahdcpcofaaDoor

namespace Go.Proofs.YtaaamahdcpcofaaDoor
theorem yi(id:Nat)(u:AV):∀ l:List AV,AV.Lx id u l=l.map (AV.Dh id u)
 | []=>rfl
 | v::r=>congrArg _ (yi id u r)
section
variable {c:Ctx} {G:Gh} {s:ag} {a:Act} {w w':World}
theorem WC{lk:Nat->Option au}{id:Nat}{e:TypeId}{τ:Ty}{xs:List τ.den}(ho:OR c G lk w id (.row e τ xs)){S':Nat->Prop}(hS:∀ b,G.S b->S' b)(hb:∀ b,fe (G.η id)=some b->S' b) :
  Rd w S' (Ty.aT (.slice τ) xs) [G.η id]:=by
 obtain⟨l,h1,h2,h3⟩:=ho
 exact Oh h1 h2 h3 hS hb
theorem C1.Dh{lk lk':Nat->Option au}{id:Nat}{e:TypeId}{τ:Ty}{xs:List τ.den}(aN:lk id=some (.row e τ xs))(ho:OR c G lk w id (.row e τ xs)){S':Nat->Prop}(hS:∀ b,G.S b->S' b)(hb:∀ b,fe (G.η id)=some b->S' b)
  (cu:∀ j,j≠id->ft (lk j) (lk' j)) {v:AV} {x:Value} (h:C1 c G lk w v x):C1 c ⟨S',G.η,G.φ⟩ lk' w (AV.Dh id (.az ⟨.slice τ,xs⟩) v) x:=by
 have aQ:(∀ j,v.refs j=true->j≠id)->C1 c ⟨S',G.η,G.φ⟩ lk' w v x:=λ hr=>h.mono (λ j hj=>⟨cu j (hr j hj),rfl⟩) hS (λ _ _=>rfl)
 cases v with
 | row i =>
  simp only[AV.Dh]
  split
  .rename_i hi
   have hi:=a1x hi
   subst hi
   refine⟨rfl,?_⟩
   rw[h.1]
   exact WC ho hS hb
  .rename_i hi
   refine aQ λ j hj=>?_
   simp only[AV.refs] at hj
   have:=a1x hj
   intro e
   subst this e
   simp at hi
 | fh i k off =>
  simp only[AV.Dh]
  split
  .trivial
  .rename_i hi
   refine aQ λ j hj=>?_
   simp only[AV.refs] at hj
   have:=a1x hj
   intro e
   subst this e
   simp at hi
 | ptr i off =>
  refine aQ λ j hj=>?_
  simp only[AV.refs] at hj
  have:=a1x hj
  intro e
  subst this e
  obtain⟨b,_,_,h3⟩:=h
  rw[aN] at h3
  cases h3
 | agg cs=>exact h.elim
 | kr cs=>exact h.elim
 | dw f cs=>exact h.elim
 | jO v=>exact aQ λ j hj=>by cases hj
 | any=>trivial
 | eV=>exact h
 | az u=>exact aQ λ j hj=>by cases hj
 | nil=>exact aQ λ j hj=>by cases hj
 | gK u=>exact aQ λ j hj=>by cases hj
 | fn f=>exact aQ λ j hj=>by cases hj
 | mp i =>
  refine aQ λ j hj=>?_
  simp only[AV.refs] at hj
  have:=a1x hj
  intro e
  subst this e
  have h3:=h.2.1
  rw[aN] at h3
  cases h3
 | aq i =>
  refine aQ λ j hj=>?_
  simp only[AV.refs] at hj
  have:=a1x hj
  intro e
  subst this e
  have h1:=h.1
  rw[aN] at h1
  cases h1
 | sub i k o z =>
  refine aQ λ j hj=>?_
  simp only[AV.refs] at hj
  have:=a1x hj
  intro e
  subst this e
  have h1:=h.1
  rw[aN] at h1
  cases h1
 | fL i k o z =>
  refine aQ λ j hj=>?_
  simp only[AV.refs] at hj
  have:=a1x hj
  intro e
  subst this e
  have h1:=h.1
  rw[aN] at h1
  cases h1
theorem yh(id:Nat)(u:AV):∀ l:List AV,AV.Lw id u l=l.map (AV.AS id u)
 | []=>rfl
 | v::r=>congrArg _ (yh id u r)
theorem C1.AS{lk lk':Nat->Option au}{id:Nat}{τ:Ty}{xs:List τ.den}(aN:lk id=some (.aq τ xs))(hT:jH w (G.η id) τ xs (G.φ id)){S':Nat->Prop}(hS:∀ b,G.S b->S' b)(hb:∀ b∈G.φ id,S' b)
  (cu:∀ j,j≠id->ft (lk j) (lk' j)) {v:AV} {x:Value} (h:C1 c G lk w v x):C1 c ⟨S',G.η,G.φ⟩ lk' w (AV.AS id (.az ⟨.slice τ,xs⟩) v) x:=by
 have aQ:(∀ j,v.refs j=true->j≠id)->C1 c ⟨S',G.η,G.φ⟩ lk' w v x:=λ hr=>h.mono (λ j hj=>⟨cu j (hr j hj),rfl⟩) hS (λ _ _=>rfl)
 have other:∀ i:Nat,(Nat.beq i id=false\/cp (lk i)=false)->(∀ j,v.refs j=true->Nat.beq i j=true)->C1 c ⟨S',G.η,G.φ⟩ lk' w v x:=λ i hi hr=>aQ λ j hj e=>by
  have q:=a1x (hr j hj)
  subst q
  subst e
  rcases hi with hi|hi
  .simp at hi
  .rw[aN] at hi;cases hi
 cases v with
 | aq i =>
  simp only[AV.AS]
  split
  .rename_i hi
   have hi:=a1x hi
   subst hi
   obtain⟨_,l,h2,_⟩:=h
   exact⟨rfl,hT.rd h2 hb⟩
  .rename_i hi
   exact other i (.inl hi) λ j hj=>hj
 | sub i k o z =>
  simp only[AV.AS]
  split
  .trivial
  .rename_i hi
   exact other i (.inl hi) λ j hj=>hj
 | fL i k o z =>
  simp only[AV.AS]
  split
  .trivial
  .rename_i hi
   exact other i (.inl hi) λ j hj=>hj
 | row i=>exact other i (.inr (sL h.2.1)) λ j hj=>hj
 | fh i k off =>
  refine other i (.inr ?_) λ j hj=>hj
  obtain⟨b,n,cap,e,aV,cT,_,h3,_⟩:=h
  rw[h3];rfl
 | ptr i off =>
  refine other i (.inr ?_) λ j hj=>hj
  obtain⟨b,_,_,h3⟩:=h
  match hl:lk i,h3 with
  | some (.box _),_=>rfl
 | mp i=>exact other i (.inr (Ea h.2.1)) λ j hj=>hj
 | agg cs=>exact h.elim
 | kr cs=>exact h.elim
 | dw f cs=>exact h.elim
 | jO v=>exact aQ λ j hj=>by cases hj
 | any=>trivial
 | eV=>exact h
 | az u=>exact aQ λ j hj=>by cases hj
 | nil=>exact aQ λ j hj=>by cases hj
 | gK u=>exact aQ λ j hj=>by cases hj
 | fn f=>exact aQ λ j hj=>by cases hj
structure Fx(F:AV->AV):Prop where
 az:∀ v,F (.az v) = .az v
 agg:∀ cs,F (.agg cs) = .agg (cs.map F)
 kr:∀ cs,F (.kr cs) = .kr (cs.map F)
 dw:∀ f cs,F (.dw f cs) = .dw f (cs.map F)
 any:F .any = .any
 aq:∀ i,(∃ u,F (.aq i) = .az u)\/F (.aq i) = .aq i
section
variable {F:AV->AV} {G':Gh} {lk lk':Nat->Option au} (hF:Fx F) (hC:∀ v x,C1 c G lk w v x->C1 c G' lk' w (F v) x) (hS:∀ b,G.S b->G'.S b)
include hF hC hS
theorem CR.fx{v:AV}{x:Value}(h:CR c G lk w v x):CR c G' lk' w (F v) x:=by
 rcases h.inv with ⟨u,rfl,h1⟩|⟨cs,l,rfl,rfl,h1⟩|h1
 .rw[hF.az];exact fM.mono h1 hS (λ _ _=>rfl)
 .rw[hF.agg]
  exact⟨l,rfl,aJ.fG _ (h1.imp λ u y _ hy=>hC u y hy)⟩
 .exact (hC _ _ h1).Rt
theorem VR.fx{v:AV}{x:Value}(h:VR c G lk w v x):VR c G' lk' w (F v) x:=by
 have key:C1 c G lk w v x->VR c G' lk' w (F v) x:=λ q=>(hC v x q).iA
 cases v with
 | az u=>rw[hF.az];exact fM.mono h hS (λ _ _=>rfl)
 | agg cs =>
  obtain⟨l,rfl,h2⟩:=h
  rw[hF.agg]
  exact⟨l,rfl,aJ.fG _ (h2.imp λ u y _ hy=>hC u y hy)⟩
 | kr vs =>
  obtain⟨l,rfl,h2⟩:=h
  rw[hF.kr]
  refine⟨l,rfl,aJ.fG _ (h2.imp λ u y _ hy=>?_)⟩
  cases u with
  | any=>rw[hF.any];trivial
  | az v=>rw[hF.az];exact fM.mono hy hS (λ _ _=>rfl)
  | aq i =>
   have q:=hC (.aq i) y hy
   rcases hF.aq i with ⟨u,e⟩|e<;>rw[e] at q ⊢
   .exact q.iA
   .exact q
  | agg cs =>
   obtain⟨l,rfl,h2⟩:=hy
   rw[hF.agg]
   exact⟨l,rfl,aJ.fG _ (h2.imp λ u y _ hy=>hC u y hy)⟩
  | _=>exact hy.elim
 | dw f cs =>
  obtain⟨l,rfl,h2⟩:=h
  rw[hF.dw]
  exact⟨l,rfl,aJ.fG _ (h2.imp λ u y _ hy=>CR.fx hF hC hS hy)⟩
 | any=>rw[hF.any];trivial
 | _=>exact key h
end
theorem W6(id:Nat)(u:TV):Fx (AV.Dh id (.az u)):=⟨λ _=>rfl,λ cs=>by rw[AV.Dh,yi],λ cs=>by rw[AV.Dh,yi],λ f cs=>by rw[AV.Dh,yi],rfl,λ i => .inr rfl⟩
theorem W5(id:Nat)(u:TV):Fx (AV.AS id (.az u)):=⟨λ _=>rfl,λ cs=>by rw[AV.AS,yh],λ cs=>by rw[AV.AS,yh],λ f cs=>by rw[AV.AS,yh],rfl,λ i=>by
 simp only[AV.AS]
 split
 .exact .inl ⟨u,rfl⟩
 .exact .inr rfl⟩
def au.gi(F:AV->AV):au->au
 | .box cs => .box (cs.map F)
 | o=>o
theorem Inv.fix(h:Inv c G s a w)(id:Nat)(F:AV->AV)(hF:Fx F)(B:Nat->Prop)(hB:∀ b,B b->(c.w0.heap.size<=b\/c.X b)/\b<w.heap.size/\(∀ i o,i≠id->s.ae i=some o->fe (G.η i)≠some b)/\∀ i τ xs,i≠id->s.ae i=some (.aq τ xs)->b∉G.φ i)
  (hC:∀ lk',(∀ j,j≠id->ft (s.ae j) (lk' j))->∀ v x,C1 c G s.ae w v x->C1 c ⟨λ b=>G.S b\/B b,G.η,G.φ⟩ lk' w (F v) x) :
  Inv c ⟨λ b=>G.S b\/B b,G.η,G.φ⟩ { ar:=s.ar.map F,aC:=(bK id s.aC).map λ p=>(p.1,p.2.gi F) } a w:=by
 have hS:∀ b,G.S b->G.S b\/B b:=λ b hb => .inl hb
 have cu:∀ i,ag.ae { ar:=s.ar.map F,aC:=(bK id s.aC).map λ p=>(p.1,p.2.gi F) } i=(if i=id then none else s.ae i).map (au.gi F):=by
  intro i
  show ae ((bK id s.aC).map _) i=_
  rw[CP,fj]
  rfl
 have fQ:∀ j,j≠id->ft (s.ae j) (ag.ae { ar:=s.ar.map F,aC:=(bK id s.aC).map λ p=>(p.1,p.2.gi F) } j):=by
  intro j hj
  rw[cu,a1B hj]
  refine⟨λ hh=>?_,λ e τ xs hh=>⟨e,xs,by rw[hh];rfl,a2u _⟩,λ hh=>?_,λ hh=>?_⟩
  .match hq:s.ae j,hh with
   | some (.box cs),_=>rfl
  .match hq:s.ae j,hh with
   | some (.aq τ xs),_=>rfl
  .match hq:s.ae j,hh with
   | some (.map m),_=>rfl
 have hC:=hC _ fQ
 have hinv:∀ i o,ag.ae { ar:=s.ar.map F,aC:=(bK id s.aC).map λ p=>(p.1,p.2.gi F) } i=some o->i≠id/\∃ o',s.ae i=some o'/\o=o'.gi F:=λ i o cr=>by
  rw[cu] at cr
  simp only[a2r] at cr
  obtain⟨o',cr,rfl⟩:=cr
  by_cases hi:i=id
  .simp[hi] at cr
  .rw[a1B hi] at cr
   exact⟨hi,o',cr,rfl⟩
 exact {
  defers:=h.defers
  size:=by rw[h.size];simp
  aQ:=h.aQ
  lE:=h.lE
  fc:=λ b hbl hx=>⟨λ hh=>by
   rcases hh with hh|hh
   .exact (h.fc b hbl hx).1 hh
   .exact (hB b hh).1.elim (λ q=>by omega) (λ q=>absurd q hx),λ hh => .inl ((h.fc b hbl hx).2 hh)⟩
  sX:=λ b hh => .inl (h.sX b hh)
  ed:=λ b hh=>by
   rcases hh with hh|hh
   .exact h.ed b hh
   .exact (hB b hh).2.1
  ar:=λ i=>by
   have he:ag.sl { ar:=s.ar.map F,aC:=(bK id s.aC).map λ p=>(p.1,p.2.gi F) } i=F (s.sl i):=by
    simp only[ag.sl,a2j,a3d]
    cases s.ar[i]? with
    | none=>exact hF.any.symm
    | some v=>rfl
   rw[he]
   exact VR.fx hF hC hS (h.ar i)
  aC:=λ i o cr=>by
   obtain⟨hi,o',ff,rfl⟩:=hinv i o cr
   have cF:=h.aC i o' ff
   cases o' with
   | box cs =>
    obtain⟨b,l,t,k1,k2,k3⟩:=cF
    exact⟨b,l,t,k1,k2,aJ.fG _ (k3.imp λ u y _ hy=>hC u y hy)⟩
   | row e2 mD oH =>
    obtain⟨l,k1,k2,k3⟩:=cF
    exact⟨l,k1,fJ.aQ hS (λ _ _=>rfl) _ k2,k3⟩
   | aq mD oH=>trivial
   | map m=>exact cF
  place:=λ i o b cr jP=>by
   obtain⟨hi,o',ff,rfl⟩:=hinv i o cr
   obtain⟨q1,q2,q3⟩:=h.place i o' b ff jP
   exact⟨q1,λ hs=>hs.elim q2 λ hs=>(hB b hs).2.2.1 i o' hi ff jP,q3⟩
  apart:=λ i j o o2 b cr E0 qT oT=>by
   obtain⟨_,o',ff,rfl⟩:=hinv i o cr
   obtain⟨_,o2',a0u,rfl⟩:=hinv j o2 E0
   exact h.apart i j o' o2' b ff a0u qT oT
  aI:=by
   have hold:∀ j mD oH,ag.ae { ar:=s.ar.map F,aC:=(bK id s.aC).map λ p=>(p.1,p.2.gi F) } j=some (.aq mD oH)->j≠id/\s.ae j=some (.aq mD oH):=λ j mD oH k=>by
    obtain⟨hj,o',E0,e⟩:=hinv j _ k
    refine⟨hj,?_⟩
    match o',e with
    | .aq ..,e=>rw[E0,e];rfl
    | .box _,e=>cases e
    | .row ..,e=>cases e
    | .map _,e=>cases e
   exact {
    tr:=λ j mD oH k=>h.aI.tr j mD oH (hold j mD oH k).2
    nd:=λ j mD oH k=>h.aI.nd j mD oH (hold j mD oH k).2
    pl:=λ j mD oH b k cm=>by
     obtain⟨hj,k⟩:=hold j mD oH k
     obtain⟨q1,q2,q3,q4⟩:=h.aI.pl j mD oH b k cm
     refine⟨q1,λ hs=>hs.elim q2 λ hs=>(hB b hs).2.2.2 j mD oH hj k cm,q3,λ i o cr=>?_⟩
     obtain⟨_,o',ff,rfl⟩:=hinv i o cr
     exact q4 i o' ff
    ap:=λ j j' mD Ys oH Yr b k k'=>h.aI.ap j j' mD Ys oH Yr b (hold j mD oH k).2 (hold j' Ys Yr k').2 }
  root:=λ i v hr ht=>h.root i v hr (by
   match hl:ag.ae { ar:=s.ar.map F,aC:=(bK id s.aC).map λ p=>(p.1,p.2.gi F) } i,ht with
   | some (.aq ..),_ =>
    obtain⟨_,o',cr,e⟩:=hinv i _ hl
    match o',e with
    | .aq ..,e=>rw[cr];rfl
    | .box _,e=>cases e
    | .row ..,e=>cases e
    | .map _,e=>cases e)
  kd:=h.kd
  dE:=λ i v hr ht=>h.dE i v hr (by
   match hl:ag.ae { ar:=s.ar.map F,aC:=(bK id s.aC).map λ p=>(p.1,p.2.gi F) } i,ht with
   | some (.box _),_ =>
    obtain⟨_,o',cr,e⟩:=hinv i _ hl
    match o',e with
    | .box _,e=>rw[cr];rfl
    | .aq ..,e=>cases e
    | .row ..,e=>cases e
    | .map _,e=>cases e)
  fW:=h.fW }
theorem TN(id:Nat)(u:AV)(o:au):o.Dh id u=o.gi (AV.Dh id u):=by
 cases o<;>simp[au.Dh,au.gi,yi]
theorem TM(id:Nat)(u:AV)(o:au):o.AS id u=o.gi (AV.AS id u):=by
 cases o<;>simp[au.AS,au.gi,yh]
theorem Inv.freeze(h:Inv c G s a w)(id:Nat):∃ G',Inv c G' (s.freeze id) a w:=by
 unfold ag.freeze
 split
 .rename_i e τ xs aN
  have ho:=h.aC id _ aN
  rw[yi]
  simp only[TN]
  exact⟨_,h.fix id _ (W6 id _) (λ b=>fe (G.η id)=some b) (λ b hb=>by
   obtain⟨q1,_,q3⟩:=h.place id _ b aN hb
   exact⟨q1,q3,λ i o hi cr qT=>hi (h.apart i id o _ b cr aN qT hb),λ i τ xs _ k q=>(h.aI.pl i τ xs b k q).2.2.2 id _ aN hb⟩)
   λ lk' hs v x hv=>C1.Dh aN ho (λ _ hb => .inl hb) (λ _ hb => .inr hb) hs hv⟩
 .rename_i τ xs aN
  rw[yh]
  simp only[TM]
  exact⟨_,h.fix id _ (W5 id _) (λ b=>b∈G.φ id) (λ b hb=>by
   obtain⟨q1,_,q3,q4⟩:=h.aI.pl id _ _ b aN hb
   exact⟨q1,q3,λ i o _ cr=>q4 i o cr,λ i τ xs hi k q=>hi (h.aI.ap i id _ _ _ _ b k aN q hb)⟩)
   λ lk' hs v x hv=>C1.AS aN (h.aI.tr id _ _ aN) (λ _ hb => .inl hb) (λ _ hb => .inr hb) hs hv⟩
 .exact⟨G,h⟩
theorem Inv.BD:∀ (l:List Nat) {G:Gh} {s:ag},Inv c G s a w->∃ G',Inv c G' (l.foldl ag.freeze s) a w
 | [],G,s,h=>⟨G,h⟩
 | i::r,G,s,h=>by
  obtain⟨G',h'⟩:=h.freeze i
  exact Inv.BD r h'
theorem CN{lk:Nat->Option au}{v:AV}{x:Value}{K:Prop}(hv:VR c G lk w v x)(h:known v K):K:=by
 unfold known at h
 split at h
 .rename_i n
  obtain⟨_,h1,h2⟩:=hv
  refine h ⟨?_,?_⟩
  .have:=h1;simp only[IntKind.min,IntKind.signed,IntKind.bits,a3z] at this;omega
  .have:=h2;simp only[IntKind.max,IntKind.signed,IntKind.bits,a3z] at this;omega
 .rename_i t xs
  obtain⟨_,_,_,_,h1,_⟩:=nS hv
  exact h h1
 .rename_i xs
  obtain⟨s,_,h2,h3⟩:=hv
  subst h2
  exact h (by rw[a2y];exact h3)
 .exact h
theorem Yu{l:List Operand}{u v:AV}{ev:Operand->AV}(h:l.map ev=[u,v]){lk:Nat->Option au}(c8:∀ x,VR c G lk w (ev x) (a.eval x)):∃ x y,l.map a.eval=[x,y]/\VR c G lk w u x/\VR c G lk w v y:=by
 have:=aJ.pI c8 l
 rw[h] at this
 match hl:l.map a.eval,this with
 | [x,y],hh=>exact⟨x,y,rfl,hh.1,hh.2.1⟩
theorem D9(hE:bD c.P c.E)(h:Inv c G s a w){o:Oper}{T:TypeId}{m k x:Operand}(bl:o.op = .mapUpdate T m k x\/o.op = .insert T m k x){vc:Vc}{s':ag}(he:KE c.E s o.dst T m k x=some (vc,s'))(fi:vc.ok){Q:Exit->Act->World->Prop} :
  o.wp c.P a w (λ a' w'=>∃ G',Inv c G' s' a' w') Q:=by
 cases he
theorem RR(hE:bD c.P c.E)(h:Inv c G s a w){o:Oper}{vc:Vc}{s':ag}(he:OY c.E s o=some (vc,s'))(fi:vc.ok){Q:Exit->Act->World->Prop} :
  o.wp c.P a w (λ a' w'=>∃ G',Inv c G' s' a' w') Q:=by
 unfold OY at he
 split at he
 .rename_i bl
  exact D9 hE h (.inl bl) he fi
 .rename_i bl
  exact D9 hE h (.inr bl) he fi
 .rename_i T ad x bl
  split at he
  .rename_i τ r hT
   have hp:=bf h ad
   have hx:=bf h x
   have fin:∀ w' G1 (s1:ag),(Instr.storeAt T (a.eval ad) (a.eval x)).run c.P w = .ok () w'->Inv c G1 s1 a w'->s'=s1.put o.dst .any->o.wp c.P a w (λ a' w'=>∃ G',Inv c G' s' a' w') Q:=by
    intro w' G1 s1 hr hi hs
    unfold Oper.wp
    have:(execOp a.eval o).run c.P w = .ok .skip w':=by simp only[execOp,bl,a2h,hr,a1U,a2i]
    rw[this]
    refine⟨G1,?_⟩
    rw[hs]
    exact Inv.put hi trivial
   split at he
   .rename_i id off c8
    split at he
    .rename_i cs aN
     split at he
     .rename_i new rM
      split at he
      .rename_i dV uW
       simp only[a1w,a1y] at he
       obtain⟨rfl,rfl⟩:=he
       rw[c8] at hp
       obtain⟨w',k1,k2⟩:=h.store hE hT aN hp ⟨_,rM,hx⟩ uW
       exact fin w' _ _ k1 k2 rfl
      .cases he
     .cases he
    .cases he
   .rename_i id i c8
    split at he
    .rename_i e' aV xs aN
     split at he
     .rename_i y kZ hy
      have kZ:=a2d kZ
      subst kZ
      simp only[a1w,a1y] at he
      obtain⟨rfl,rfl⟩:=he
      rw[c8] at hp
      obtain⟨w',k1,k2⟩:=h.UE hE hT aN hp hx hy
      exact fin w' _ _ k1 k2 rfl
     .cases he
    .cases he
   .cases he
  .cases he
 .rename_i cl bl
  split at he
  .rename_i ku
   split at he
   .rename_i d T T' hd O7
    split at he
    .rename_i τ b e LB hT
     have LB:=a1x LB
     subst LB
     split at he
     .rename_i id y e7
      split at he
      .rename_i e' aV xs ys aN hy
       split at he
       .rename_i cT yn oX
        have yn:=a1x yn
        have e1:=TV.aX oX
        cases e1
        subst yn
        simp only[a1w,a1y] at he
        obtain⟨rfl,rfl⟩:=he
        obtain⟨x,z,m1,m2,m3⟩:=Yu (a:=a) (c:=c) (G:=G) (w:=w) e7 (bf h)
        obtain⟨v',w',G',k1,k2⟩:=h.append hE hT (d:=d) aN m2 m3 hy fi o.type
        have GA:cl.argTypes = #[T,T]:=by rw[<-a2G (xs:=cl.argTypes),O7]
        have GR:cl.args.map a.eval = #[x,z]:=by rw[<-a2G (xs:=cl.args.map a.eval),a3H,m1]
        unfold Oper.wp
        have:(execOp a.eval o).run c.P w = .ok (.value v') w':=by
         simp[execOp,bl,resolve,ku,invoke,builtin,GA,GR,k1]
        rw[this]
        refine⟨G',?_⟩
        rw[hd]
        exact k2
       .cases he
      .cases he
     .cases he
    .cases he
   .cases he
  .cases he
 .cases he
theorem SA(hE:bD c.P c.E)(h:Inv c G s a w){o0:Oper}{vc:Vc}{v:AV}{ob:Option au}(he:Px c.E s o0=some (vc,v,ob))(fi:vc.ok){Q:Exit->Act->World->Prop} :
  o0.wp c.P a w (vQ c G s.sl s.ar.length s.ae o0.dst a w v ob) Q:=by
 unfold Px at he
 split at he
 case h_2=>cases he
 case h_1 cl bl =>
 split at he
 case h_2=>cases he
 case h_1 f ku =>
 split at he
 case h_2=>cases he
 case h_1 d hd =>
 split at he
 case h_2=>cases he
 case h_1 Z9 has =>
 have key:∀ pre o,c.E.Ml f Z9=some (pre,o)->pre.ok->o0.wp c.P a w (λ a' w'=>∃ x S',a'=a.put o0.dst x/\bc c ⟨S',G.η,G.φ⟩ s.sl s.ar.length s.ae a w' /\
   (∀ b,fe x=some b->w.heap.size<=b/\b<w'.heap.size/\¬ S' b)/\UP w' S' x o) Q:=λ pre o hc fi=>by
  obtain⟨oU,kl⟩:=hE.Ml f Z9 pre o hc fi
  unfold Oper.wp
  rw[ji bl ku rfl oU]
  simp only[Oper.upon]
  refine (kl w G.S _ h.SU (jI hE h (zM (λ _ _ h=>h)) (λ _ h=>h) (λ τ v x y h1 h2=>xT zN wM h1 h2) has (aJ.pI (bf h) _))).mono ?_
  rintro e w' ⟨x,S',rfl,hk,W8,W9,hb,hx⟩
  exact⟨x,S',rfl,bc.grow h hk W8 W9,hb,hx⟩
 split at he
 case h_3=>cases he
 case h_1 pre cells hc =>
  simp only[a1w,a1y] at he
  obtain⟨rfl,rfl,rfl⟩:=he
  refine a3k ?_ (key _ _ hc fi)
  rintro a' w' ⟨x,S',rfl,hI,hb,b,l,t,rfl,hh,lU⟩
  exact⟨_,S',rfl,hI,⟨d,hd,rfl⟩,⟨b,l,t,rfl,hh,aJ.fG _ (lU.imp λ u y _ hy=>hy)⟩,hb⟩
 case h_2 pre e τ xs hc =>
  simp only[a1w,a1y] at he
  obtain⟨rfl,rfl,rfl⟩:=he
  refine a3k ?_ (key _ _ hc fi)
  rintro a' w' ⟨x,S',rfl,hI,hb,l,h1,h2,h3⟩
  exact⟨_,S',rfl,hI,⟨d,hd,rfl⟩,⟨l,h1,h2,h3⟩,hb⟩
theorem Hr(hE:bD c.P c.E)(h:Inv c G s a w){o:Oper}{K:ag->Prop}(hr:mP c.E o K s){Q:Exit->Act->World->Prop} :
  o.wp c.P a w (λ a' w'=>∃ G' s',Inv c G' s' a' w'/\K s') Q:=by
 unfold mP at hr
 split at hr
 .exact hr.elim
 rename_i EV
 obtain⟨G1,h1⟩:=h.BD (mN c.E s o)
 generalize (mN c.E s o).foldl ag.freeze s=s1 at *
 simp only at hr
 split at hr
 .rename_i vc s' he
  exact a3k (λ a' w' ⟨G',hg⟩=>⟨G',s',hg,(Vc.lO hr).2⟩) (SV hE h1 he (Vc.lO hr).1)
 split at hr
 .rename_i vc s' he
  exact a3k (λ a' w' ⟨G',hg⟩=>⟨G',s',hg,(Vc.lO hr).2⟩) (RO hE h1 he (Vc.lO hr).1)
 split at hr
 .rename_i vc s' he
  exact a3k (λ a' w' ⟨G',hg⟩=>⟨G',s',hg,(Vc.lO hr).2⟩) (RR hE h1 he (Vc.lO hr).1)
 .split at hr
  .rename_i vc s' he
   exact a3k (λ a' w' ⟨G',hg⟩=>⟨G',s',hg,(Vc.lO hr).2⟩) (SJ hE h1 he (Vc.lO hr).1)
  split at hr
  .rename_i vc v ob he
   refine a3k ?_ (SA hE h1 he (Vc.lO hr).1)
   intro a' w' hd
   obtain⟨G',hl⟩:=L7 h1 EV hd
   exact⟨G',_,hl,(Vc.lO hr).2⟩
  .split at hr
   .rename_i vc v ob hq
    obtain⟨fi,hk⟩:=Vc.lO hr
    refine a3k ?_ (Fo hE h1 (λ _ _ h=>h) (bf h1) hq fi)
    intro a' w' hd
    obtain⟨G',hl⟩:=L7 h1 EV hd
    refine⟨G',_,hl,?_⟩
    split at hk
    .obtain⟨x,S',_,_,hx⟩:=hd
     cases ob with
     | none=>exact CN hx hk
     | some ob =>
      obtain⟨hL,_⟩:=hx
      cases ob with
      | box cs=>obtain⟨i,_,rfl⟩:=hL;exact hk
      | row e τ xs=>obtain⟨i,_,rfl⟩:=hL;exact hk
      | aq τ xs=>exact hL.elim
      | map m=>obtain⟨i,_,rfl⟩:=hL;exact hk
    .exact hk
   .exact hr.elim
theorem Ly{t:Array Value}{i:Nat}{b:Bool}(h:t.getD i undef = .bool b):t[i]?=some (.bool b):=by
 rw[a2f] at h
 cases hx:t[i]? with
 | none=>rw[hx] at h;simp[undef] at h
 | some v=>rw[hx] at h;simpa using h
theorem ES{ops:Array Oper}{g t:Nat}{b:Bool}(ht:uO ops g=some t)(hx:VR c G s.ae w (.az ⟨.bool,b⟩) (a.eval (.tmp t))):yielded ops a.tmps g=some b:=by
 have hb:[a.eval (.tmp t)]=[.bool b]:=hx
 simp only[a1C,a1H] at hb
 have:=Ly hb
 unfold yielded
 rw[show (ops[g]?).bind (·.dst)=some t from ht]
 simp[this]
theorem BK{ops:Array Oper}{g t:Nat}(ht:uO ops g=some t)(hx:VR c G s.ae w .eV (a.eval (.tmp t))):yielded ops a.tmps g=none:=by
 have hb:a.eval (.tmp t)=undef:=hx
 have hb:a.tmps.getD t undef=undef:=hb
 unfold yielded
 rw[show (ops[g]?).bind (·.dst)=some t from ht]
 rw[a2f] at hb
 cases hx:a.tmps[t]? with
 | none=>simp[hx]
 | some v =>
  rw[hx] at hb
  have hv:v=undef:=hb
  subst hv
  simp[hx,undef]
theorem Inv.slot(h:Inv c G s a w)(t:Nat){b b':Bool}(he:s.eval (.tmp t) = .az ⟨.bool,b⟩)(hb:b=b'):Inv c G (s.put (some t) (.az ⟨.bool,b'⟩)) a w:=by
 have:s.put (some t) (.az ⟨.bool,b'⟩)=s\/(s.put (some t) (.az ⟨.bool,b'⟩)).sl=s.sl:=by
  right
  rw[Tv]
  funext i
  unfold lN
  split
  .rename_i hi
   obtain⟨h1,h2⟩:=hi
   simp only[a1w] at h1
   subst h1
   rw[<-hb,<-he]
   rfl
  .rfl
 rcases this with e|e
 .rw[e];exact h
 .unfold Inv
  rw[e,N9,B6]
  exact h
theorem y8(hE:bD c.P c.E){ops:Array Oper}{Q:ag->Prop}{o:Oper}{r:List Oper}{kn:List (Nat×Bool)}(h:Inv c G s a w)(hr:gn c.E ops (o::r) kn Q s) :
  if Region.wanted o (yielded ops a.tmps)=true then ∀ Q':Exit->Act->World->Prop,o.wp c.P a w (λ a' w'=>∃ G' s' dv,Inv c G' s' a' w'/\gn c.E ops r dv Q s') Q'
  else ∃ G' s' dv,Inv c G' s' (a.put o.dst undef) w/\gn c.E ops r dv Q s':=by
 have run:∀ (kn:List (Nat×Bool)) (s:ag),Inv c G s a w->mP c.E o (gn c.E ops r kn Q) s->∀ Q':Exit->Act->World->Prop,o.wp c.P a w (λ a' w'=>∃ G' s' dv,Inv c G' s' a' w'/\gn c.E ops r dv Q s') Q':=λ kn s hs cH Q' =>
  a3k (λ a' w' ⟨G',s',h1,h2⟩=>⟨G',s',kn,h1,h2⟩) (Hr hE hs cH)
 have skip:∀ (kn:List (Nat×Bool)) (s:ag),Inv c G s a w->gn c.E ops r kn Q (s.put o.dst .eV)->∃ G' s' dv,Inv c G' s' (a.put o.dst undef) w/\gn c.E ops r dv Q s':=λ kn s hs hk =>
  ⟨G,_,kn,Inv.put (v := .eV) hs rfl,hk⟩
 simp only[gn] at hr
 split at hr
 .rename_i hg
  have hw:Region.wanted o (yielded ops a.tmps)=true:=by simp[Region.wanted,hg]
  rw[a1S hw]
  exact run kn s h hr
 .rename_i g want hg
  split at hr
  .exact hr.elim
  .rename_i t ht
   split at hr
   .rename_i b hb
    split at hr
    .rename_i b' c8
     have hx:=bf h (.tmp t)
     rw[c8] at hx
     have hy:=ES (s:=s) ht hx
     split at hr
     .rename_i jP EU
      have jP:=eq_of_beq jP
      subst jP
      have hw:Region.wanted o (yielded ops a.tmps)=true:=by simp[Region.wanted,hg,hy];simpa using EU
      rw[a1S hw]
      exact run kn s h hr
     .rename_i jP EU
      have jP:=eq_of_beq jP
      subst jP
      have hw:Region.wanted o (yielded ops a.tmps)=false:=by simp[Region.wanted,hg,hy];simpa using EU
      rw[hw]
      exact skip kn s h hr
     .exact hr.elim
    .rename_i c8
     have hx:=bf h (.tmp t)
     rw[c8] at hx
     have hy:=BK (s:=s) ht hx
     have hw:Region.wanted o (yielded ops a.tmps)=false:=by simp[Region.wanted,hg,hy]
     rw[hw]
     exact skip kn s h hr
    .exact hr.elim
   .split at hr
    .rename_i b c8
     have hx:=bf h (.tmp t)
     rw[c8] at hx
     have hy:=ES (s:=s) ht hx
     by_cases EU:b=want
     .have hw:Region.wanted o (yielded ops a.tmps)=true:=by simp[Region.wanted,hg,hy,EU]
      rw[a1S hw]
      exact run _ _ (h.slot t c8 EU) (hr.1 EU)
     .have TU:b = !want:=by cases b<;>cases want<;>simp_all
      have hw:Region.wanted o (yielded ops a.tmps)=false:=by simp[Region.wanted,hg,hy,TU]
      rw[hw]
      exact skip _ _ (h.slot t c8 TU) (hr.2 TU)
    .rename_i c8
     have hx:=bf h (.tmp t)
     rw[c8] at hx
     have hy:=BK (s:=s) ht hx
     have hw:Region.wanted o (yielded ops a.tmps)=false:=by simp[Region.wanted,hg,hy]
     rw[hw]
     exact skip kn s h hr
    .exact hr.elim
theorem wY(hE:bD c.P c.E){ops:Array Oper}{Q:ag->Prop}{Q':Exit->Act->World->Prop}(hQ:∀ G s a w,Inv c G s a w->Q s->Q' .normal a w) :
  ∀ (r:List Oper) (i:Nat) (kn:List (Nat×Bool)) (G:Gh) (s:ag) (a:Act) (w:World),(∀ j o,r[j]?=some o->ops[i+j]?=some o)->Inv c G s a w->gn c.E ops r kn Q s->wpOps c.P ops Q' (List.range' i r.length) a w
 | [],i,kn,G,s,a,w,_,h,hr=>hQ G s a w h hr
 | o::r,i,kn,G,s,a,w,Yg,h,hr=>by
  have ho:ops[i]?=some o:=Yg 0 o rfl
  have uU:∀ j p,r[j]?=some p->ops[i+1+j]?=some p:=λ j p hj=>by
   have:=Yg (j+1) p (by simpa using hj)
   rwa [show i+(j+1)=i+1+j by omega] at this
  simp only[a1M,List.range'_succ,wpOps,ho]
  have r7:=y8 hE h hr
  split at r7
  .rename_i hw
   rw[a1S hw]
   exact .inl (a3k (λ a' w' ⟨G',s',dv,h1,h2⟩=>wY hE hQ r (i+1) dv G' s' a' w' uU h1 h2) (r7 Q'))
  .rename_i hw
   rw[a1B hw]
   obtain⟨G',s',dv,h1,h2⟩:=r7
   exact wY hE hQ r (i+1) dv G' s' _ w uU h1 h2
end
end Go.Proofs.YtaaamahdcpcofaaDoor

namespace Go.Proofs.YtaaamahdcpcofaaDoor
structure HN where
 DC:Bool
 v:AV
 ob:Option au
def GV(want DC:Bool):AV->Prop
 | .az ⟨.bool,b⟩=>DC=(b == want)
 | .eV=>DC=false
 | _=>False
def iv(l:List Oper)(bits:Nat)(s:ag)(o:Oper)(DC:Bool):Prop :=
 match o.guard with
 | none=>DC=true
 | some (g,want)=>∃ t v,bG l g=some t/\Nat.testBit bits g=true/\s.eval (.tmp t)=v/\GV want DC v
def KO(E:Env)(l:List Oper)(m bits:Nat)(s:ag)(o:Oper)(e:HN):Prop :=
 iv l bits s o e.DC/\(e.DC=true->∃ vc:Vc,Fm E (J7 l m bits s) (Na l m bits s) o=some (vc,e.v,e.ob)/\vc.ok)/\(e.DC=false->e.v = .eV/\e.ob=none)
def Trace(E:Env)(l:List Oper)(m:Nat)(bW:List Nat):Nat->List Oper->List HN->ag->ag->Prop
 | _,[],[],s,s'=>s=s'
 | i,o::r,e::es,s,s'=>KO E l m (bW.getD i 0) s o e/\Trace E l m bW (i+1) r es (s.lr o.dst e.v e.ob) s'
 | _,_,_,_,_=>False
theorem On{s:ag}{t:Nat}{v:AV}(h:s.eval (.tmp t)=v)(hv:v ≠ .any):s.put (some t) v=s:=by
 have bC:t<s.ar.length:=by
  rcases a2B t s.ar.length with hl|hl
  .exact hl
  .simp only[ag.eval,a2j,a4D hl,Option.getD_none] at h
   exact absurd h.symm hv
 simp only[ag.eval,a2j,a2m bC,a4i] at h
 simp only[ag.put]
 congr 1
 subst h
 exact List.set_getElem_self bC
theorem Is(s:ag)(d:Option Nat):s.lr d .eV none=s.put d .eV:=by cases d<;>rfl
theorem sD{E:Env}{l:List Oper}{m:Nat}{bW:List Nat}{Q:List (Nat×Bool)->ag->Prop}:∀ {r:List Oper} {i:Nat} {kn:List (Nat×Bool)} {s:ag},n8 E l m bW i r kn Q s ->
  ∃ es dv s',Trace E l m bW i r es s s'/\Q dv s'
 | [],i,kn,s,h=>⟨[],kn,s,rfl,h⟩
 | o::r,i,kn,s,h=>by
  have run:∀ kn,iv l (bW.getD i 0) s o true->Hs E l m (bW.getD i 0) o (n8 E l m bW (i+1) r kn Q) s->∃ es dv s',Trace E l m bW i (o::r) es s s'/\Q dv s':=by
   intro kn hg hr
   unfold Hs at hr
   split at hr
   .split at hr
    .rename_i vc v ob hq
     obtain⟨es,dv,s',h1,h2⟩:=sD (Vc.lO hr).2
     exact⟨⟨true,v,ob⟩::es,dv,s',⟨⟨hg,λ _=>⟨vc,hq,(Vc.lO hr).1⟩,λ h=>(by cases h)⟩,h1⟩,h2⟩
    .exact hr.elim
   .exact hr.elim
  have skip:∀ kn,iv l (bW.getD i 0) s o false->n8 E l m bW (i+1) r kn Q (s.put o.dst .eV)->∃ es dv s',Trace E l m bW i (o::r) es s s'/\Q dv s':=by
   intro kn hg hr
   obtain⟨es,dv,s',h1,h2⟩:=sD hr
   exact⟨⟨false, .eV,none⟩::es,dv,s',⟨⟨hg,λ h=>(by cases h),λ _=>⟨rfl,rfl⟩⟩,by rw[Is];exact h1⟩,h2⟩
  simp only[n8] at h
  split at h
  .rename_i hg
   exact run kn (by simp[iv,hg]) h
  .rename_i g want hg
   split at h
   .rename_i t ht N0
    split at h
    .rename_i b hb
     split at h
     .rename_i b' c8
      split at h
      .rename_i jP EU
       have jP:=eq_of_beq jP
       subst jP
       exact run kn (by simp only[iv,hg];exact⟨t,_,ht,N0,c8,EU.symm⟩) h
      .rename_i jP EU
       have jP:=eq_of_beq jP
       subst jP
       exact skip kn (by simp only[iv,hg];exact⟨t,_,ht,N0,c8,EU.symm⟩) h
      .exact h.elim
     .rename_i c8
      exact skip kn (by simp only[iv,hg];exact⟨t,_,ht,N0,c8,rfl⟩) h
     .exact h.elim
    .split at h
     .rename_i b c8
      by_cases EU:b=want
      .have h':=h.1 EU
       subst EU
       rw[On c8 (by simp)] at h'
       exact run _ (by simp only[iv,hg];exact⟨t,_,ht,N0,c8,by simp[GV]⟩) h'
      .have TU:b = !want:=by cases b<;>cases want<;>simp_all
       have h':=h.2 TU
       rw[<-TU,On c8 (by simp)] at h'
       exact skip _ (by simp only[iv,hg];exact⟨t,_,ht,N0,c8,by simpa [GV] using EU⟩) h'
     .rename_i c8
      exact skip kn (by simp only[iv,hg];exact⟨t,_,ht,N0,c8,rfl⟩) h
     .exact h.elim
   .exact h.elim
def er(l:List Oper)(es:List HN)(s0:ag)(π:List Nat):ag :=
 π.foldl (λ s k=>s.lr (bG l k) (es.getD k ⟨false, .any,none⟩).v (es.getD k ⟨false, .any,none⟩).ob) s0
theorem It(s:ag)(d:Option Nat)(v:AV)(o:Option au):(s.lr d v o).ar.length=s.ar.length:=by cases d<;>simp[ag.lr]
theorem GZ(l:List Oper)(es:List HN):∀ (π:List Nat) (s0:ag),(er l es s0 π).ar.length=s0.ar.length
 | [],_=>rfl
 | k::π,s0=>by
  show (er l es (s0.lr _ _ _) π).ar.length=_
  rw[GZ l es π,It]
theorem Hv(s:ag)(d:Option Nat)(v:AV)(o:Option au):(s.lr d v o).sl=lN s.ar.length s.sl d v:=by
 cases d with
 | none=>funext i;simp[ag.lr,lN]
 | some d=>exact rD s.ar d v _
theorem zH(s:ag)(d:Option Nat)(v:AV)(o:Option au)(j:Nat):(s.lr d v o).ae j=if d=some j then (match o with
  | some o=>some o
  | none=>s.ae j) else s.ae j:=by
 cases d with
 | none=>simp[ag.lr]
 | some d =>
  cases o with
  | none =>
   simp only[ag.lr,ag.ae,ite_self]
  | some o =>
   show ae ((d,o)::s.aC) j=_
   rw[dM]
   by_cases h:j=d
   .subst h;simp
   .have:¬ (some d=some j):=by simp;exact λ e=>h e.symm
    rw[a1B h,a1B this];rfl
theorem iK(l:List Oper)(es:List HN)(t:Nat):∀ (π:List Nat) (s0:ag),(∀ k∈π,bG l k≠some t)->(er l es s0 π).sl t=s0.sl t/\(er l es s0 π).ae t=s0.ae t
 | [],_,_=>⟨rfl,rfl⟩
 | k::π,s0,h=>by
  obtain⟨h1,h2⟩:=iK l es t π (s0.lr (bG l k) (es.getD k ⟨false, .any,none⟩).v (es.getD k ⟨false, .any,none⟩).ob) (λ j hj=>h j (by simp[hj]))
  have hk:=h k (by simp)
  constructor
  .show (er l es (s0.lr _ _ _) π).sl t=_
   rw[h1,Hv,lN,a1B (λ hh=>hk hh.1)]
  .show (er l es (s0.lr _ _ _) π).ae t=_
   rw[h2,zH,a1B hk]
theorem vw(l:List Oper)(es:List HN)(t k:Nat)(hk:bG l k=some t):∀ (π:List Nat) (s0:ag),k∈π->π.Nodup->(∀ j∈π,j≠k->bG l j≠some t) ->
  (er l es s0 π).sl t=(if t<s0.ar.length then (es.getD k ⟨false, .any,none⟩).v else s0.sl t) /\
  (er l es s0 π).ae t=(match (es.getD k ⟨false, .any,none⟩).ob with
   | some o=>some o
   | none=>s0.ae t)
 | [],_,h,_,_=>by simp at h
 | j::π,s0,h,hn,ho=>by
  have xe:=a2o.1 hn
  by_cases hj:j=k
  .subst hj
   obtain⟨h1,h2⟩:=iK l es t π (s0.lr (bG l j) (es.getD j ⟨false, .any,none⟩).v (es.getD j ⟨false, .any,none⟩).ob) (λ i hi=>ho i (by simp[hi]) (λ e=>by subst e;exact xe.1 hi))
   constructor
   .show (er l es (s0.lr _ _ _) π).sl t=_
    rw[h1,Hv,lN]
    simp[hk]
   .show (er l es (s0.lr _ _ _) π).ae t=_
    rw[h2,zH,a1S hk]
  .have GJ:=ho j (by simp) hj
   obtain⟨h1,h2⟩:=vw l es t k hk π (s0.lr (bG l j) (es.getD j ⟨false, .any,none⟩).v (es.getD j ⟨false, .any,none⟩).ob) (by simpa [Ne.symm hj] using h) xe.2 (λ i hi=>ho i (by simp[hi]))
   constructor
   .show (er l es (s0.lr _ _ _) π).sl t=_
    rw[h1,It,Hv,lN,a1B (c:=bG l j=some t/\_) (λ hh=>GJ hh.1)]
   .show (er l es (s0.lr _ _ _) π).ae t=_
    rw[h2]
    split
    .rfl
    .rw[zH,a1B GJ]
theorem MM{l:List Oper}{es:List HN}{m bits:Nat}{s0:ag}{π π':List Nat}(qV:∀ j k t,j<m->k<m->bG l j=some t->bG l k=some t->j=k)
  (Sn:∀ k∈π,k<m) (L2:∀ k∈π',k<m) (hn:π.Nodup) (xe:π'.Nodup) (ha:∀ k,k<m->Nat.testBit bits k=true->k∈π/\k∈π') (t:Nat) (hh:hidden l m bits t=false) :
  (er l es s0 π).sl t=(er l es s0 π').sl t/\(er l es s0 π).ae t=(er l es s0 π').ae t:=by
 by_cases hex:∃ k,k<m/\bG l k=some t
 .obtain⟨k,hk,hd⟩:=hex
  have hb:Nat.testBit bits k=true:=by
   have:=hh
   unfold hidden at this
   rw[a3i] at this
   have:=this k (by simpa using hk)
   simp only[hd] at this
   simp only[a4G] at this
   simpa using this
  obtain⟨h1,h2⟩:=ha k hk hb
  obtain⟨e1,e2⟩:=vw l es t k hd π s0 h1 hn (λ j hj fP AT=>fP (qV j k t (Sn j hj) hk AT hd))
  obtain⟨e3,e4⟩:=vw l es t k hd π' s0 h2 xe (λ j hj fP AT=>fP (qV j k t (L2 j hj) hk AT hd))
  exact⟨e1.trans e3.symm,e2.trans e4.symm⟩
 .have ky:∀ k,k<m->bG l k≠some t:=λ k hk hd=>hex ⟨k,hk,hd⟩
  obtain⟨e1,e2⟩:=iK l es t π s0 (λ k hk=>ky k (Sn k hk))
  obtain⟨e3,e4⟩:=iK l es t π' s0 (λ k hk=>ky k (L2 k hk))
  exact⟨e1.trans e3.symm,e2.trans e4.symm⟩
theorem Cv(acc:List Nat)(k:Nat):∀ (es:List Edge) (s:Nat),Nat.testBit (es.foldl (ur acc) s) k=true->Nat.testBit s k=true\/∃ e∈es,Region.binds .any e=true/\(k=e.on\/Nat.testBit (acc.getD e.on 0) k=true)
 | [],s,h => .inl h
 | e::es,s,h=>by
  simp only[a4s] at h
  rcases Cv acc k es _ h with h|⟨e',yn,h⟩
  .unfold ur at h
   split at h
   .rename_i hb
    simp only[Nat.testBit_or,a3p] at h
    rcases h with h|h|h
    .exact .inl h
    .refine .inr ⟨e,by simp,hb, .inl ?_⟩
     rw[Nat.one_shiftLeft,Nat.testBit_two_pow] at h
     exact (a2d h).symm
    .exact .inr ⟨e,by simp,hb, .inr h⟩
   .exact .inl h
  .exact .inr ⟨e',by simp[yn],h⟩
theorem vT:∀ (l:List Oper) (acc:List Nat),∃ r,bI l acc=acc++r/\r.length=l.length /\
  ∀ i o,l[i]?=some o->∀ k,Nat.testBit ((acc++r).getD (acc.length+i) 0) k=true->∃ e∈o.after.toList,Region.binds .any e=true/\(k=e.on\/(e.on<acc.length+i/\Nat.testBit ((acc++r).getD e.on 0) k=true))
 | [],acc=>⟨[],by simp[bI],rfl,by simp⟩
 | o::l,acc=>by
  simp only[bI]
  obtain⟨r,h1,h2,h3⟩:=vT l (acc++[o.after.toList.foldl (ur acc) 0])
  refine⟨_::r,by rw[h1,a2t];rfl,by simp[h2],λ i p hp k hk=>?_⟩
  cases i with
  | zero =>
   simp at hp
   subst hp
   have oW:Nat.testBit (o.after.toList.foldl (ur acc) 0) k=true:=by
    simpa [List.getD_eq_getElem?_getD] using hk
   rcases Cv acc k _ 0 oW with h|⟨e,he,hb,h⟩
   .simp at h
   .refine⟨e,he,hb,h.imp id λ h=>?_⟩
    have bC:e.on<acc.length:=by
     rcases a2B e.on acc.length with hl|hl
     .exact hl
     .simp[a2j,a4D hl] at h
    refine⟨by omega,?_⟩
    rw[a2j,a2M bC,<-a2j]
    exact h
  | succ i =>
   have:=h3 i p (by simpa using hp) k (by
    have e1:(acc++[o.after.toList.foldl (ur acc) 0]).length+i=acc.length+(i+1):=by simp;omega
    rw[e1,a2t]
    exact hk)
   obtain⟨e,he,hb,h⟩:=this
   refine⟨e,he,hb,h.imp id λ ⟨h1,h2⟩=>⟨by simp at h1;omega,?_⟩⟩
   rw[a2t] at h2
   exact h2
theorem xA:∀ (l:List Nat) (i m0:Nat),m0<=i->nT l i m0<=i+l.length/\m0<=nT l i m0/\∀ j b,l[j]?=some b->nT l i m0<=i+j->b+1=2 ^ (i+j)
 | [],i,m0,h=>by simp[nT];exact h
 | b::l,i,m0,h=>by
  simp only[nT]
  split
  .rename_i hb
   have hb:=a1x hb
   obtain⟨h1,h2,h3⟩:=xA l (i+1) m0 (by omega)
   refine⟨by simp;omega,h2,λ j b' hj hle=>?_⟩
   cases j with
   | zero=>simp at hj;subst hj;exact hb
   | succ j=>rw[show i+(j+1)=i+1+j by omega];exact h3 j b' (by simpa using hj) (by omega)
  .obtain⟨h1,h2,h3⟩:=xA l (i+1) (i+1) (a2u _)
   refine⟨by simp;omega,by omega,λ j b' hj hle=>?_⟩
   cases j with
   | zero=>omega
   | succ j=>rw[show i+(j+1)=i+1+j by omega];exact h3 j b' (by simpa using hj) (by omega)
end Go.Proofs.YtaaamahdcpcofaaDoor

namespace Go.Proofs.YtaaamahdcpcofaaDoor
theorem uw(l:List Oper)(es:List HN)(s0:ag)(π:List Nat)(i:Nat):er l es s0 (π++[i])=(er l es s0 π).lr (bG l i) (es.getD i ⟨false, .any,none⟩).v (es.getD i ⟨false, .any,none⟩).ob:=by
 simp[er,List.foldl_append]
theorem OC{E:Env}{l:List Oper}{m:Nat}{bW:List Nat}{s0:ag}:∀ (r:List Oper) (i:Nat) (es w9:List HN) (s s':ag),Trace E l m bW i r es s s'->(∀ j o,r[j]?=some o->l[i+j]?=some o)->w9.length=i ->
  s=er l (w9++es) s0 (List.range i) ->
  (∀ j o,r[j]?=some o->KO E l m (bW.getD (i+j) 0) (er l (w9++es) s0 (List.range (i+j))) o ((w9++es).getD (i+j) ⟨false, .any,none⟩))/\s'=er l (w9++es) s0 (List.range (i+r.length))
 | [],i,[],w9,s,s',h,_,_,hs=>by
  have h:s=s':=h
  subst h
  exact⟨by simp,by simpa using hs⟩
 | o::r,i,e::es,w9,s,s',h,hl,h0,hs=>by
  obtain⟨h1,h2⟩:=h
  have ho:l[i]?=some o:=hl 0 o rfl
  have QF:(w9++e::es).getD i ⟨false, .any,none⟩=e:=by simp[a2j,<-h0]
  have cy:s.lr o.dst e.v e.ob=er l ((w9++[e])++es) s0 (List.range (i+1)):=by
   rw[a2t,List.range_succ,uw,a4c,QF,<-hs]
   simp[bG,ho]
  have ih:=OC r (i+1) es (w9++[e]) _ s' h2 (λ j p hj=>by
   have:=hl (j+1) p (by simpa using hj)
   rwa [show i+(j+1)=i+1+j by omega] at this) (by simp[h0]) cy
  rw[a2t,a4c] at ih
  refine⟨λ j p hj=>?_,by rw[ih.2];congr 2;simp;omega⟩
  cases j with
  | zero =>
   simp at hj
   subst hj
   rw[a3w,QF,<-hs]
   exact h1
  | succ j =>
   have:=ih.1 j p (by simpa using hj)
   rwa [show i+1+j=i+(j+1) by omega] at this
 | [],_,_::_,_,_,_,h,_,_,_=>h.elim
 | _::_,_,[],_,_,_,h,_,_,_=>h.elim
theorem uv:∀ (m:Nat) (π:List Nat),π.Nodup->(∀ k∈π,k<m)->π.length<=m
 | 0,π,_,h=>by
  cases π with
  | nil=>simp
  | cons k r=>exact absurd (h k (by simp)) (by omega)
 | m+1,π,hn,h=>by
  by_cases hm:m∈π
  .have h1:=uv m (π.erase m) (hn.erase m) (λ k hk=>by
    have h2:=(hn.mem_erase_iff).1 hk
    have:=h k h2.2
    have:=h2.1
    omega)
   have h3:=a3B hm
   have:0<π.length:=a3J hm
   omega
  .have:=uv m π hn (λ k hk=>by
    have:=h k hk
    have:k≠m:=λ e=>by subst e;exact hm hk
    omega)
   omega
section
variable {c:Ctx} {G:Gh} {s:ag} {a:Act} {w w':World}
theorem C1.eR{lk:Nat->Option au}{v:AV}{x:Value}(h:C1 c G lk w v x){d:Nat}(hr:v.refs d=true):lk d≠none:=by
 cases v with
 | ptr i o =>
  have:=a1x (show Nat.beq i d=true from hr)
  subst this
  obtain⟨_,_,_,h3⟩:=h
  intro e
  rw[e] at h3
  cases h3
 | row i =>
  have:=a1x (show Nat.beq i d=true from hr)
  subst this
  obtain⟨_,h3,_⟩:=h
  intro e
  rw[e] at h3
  cases h3
 | fh i k o =>
  have:=a1x (show Nat.beq i d=true from hr)
  subst this
  obtain⟨_,_,_,_,_,_,_,h3,_⟩:=h
  intro e
  rw[e] at h3
  cases h3
 | aq i =>
  have:=a1x (show Nat.beq i d=true from hr)
  subst this
  intro e
  have h1:=h.1
  rw[e] at h1
  cases h1
 | sub i k o z =>
  have:=a1x (show Nat.beq i d=true from hr)
  subst this
  intro e
  have h1:=h.1
  rw[e] at h1
  cases h1
 | fL i k o z =>
  have:=a1x (show Nat.beq i d=true from hr)
  subst this
  intro e
  have h1:=h.1
  rw[e] at h1
  cases h1
 | mp i =>
  have:=a1x (show Nat.beq i d=true from hr)
  subst this
  intro e
  have h1:=h.2.1
  rw[e] at h1
  cases h1
 | agg cs=>exact h.elim
 | kr cs=>exact h.elim
 | dw f cs=>exact h.elim
 | _=>cases hr
theorem qF{d:Nat}:∀ {cs:List AV},AV.iq d cs=true->∃ v∈cs,v.refs d=true
 | v::r,h=>by
  simp only[AV.iq] at h
  split at h
  .rename_i hv;exact⟨v,by simp,hv⟩
  .obtain⟨u,hu,hr⟩:=qF h
   exact⟨u,by simp[hu],hr⟩
theorem aJ.mem_left{α β:Type}{R:α->β->Prop}:∀ {Z9:List α} {bs:List β},aJ R Z9 bs->∀ x∈Z9,∃ y,R x y
 | _::_,b::_,h,x,hx=>by
  rcases a1N.1 hx with rfl|hx
  .exact⟨b,h.1⟩
  .exact aJ.mem_left h.2 x hx
theorem VR.eR{lk:Nat->Option au}{v:AV}{x:Value}(h:VR c G lk w v x){d:Nat}(hr:v.refs d=true):lk d≠none:=by
 cases v with
 | az u=>cases hr
 | agg cs =>
  obtain⟨l,_,hl⟩:=h
  obtain⟨u,hu,BS⟩:=qF (show AV.iq d cs=true from hr)
  obtain⟨y,hy⟩:=hl.mem_left u hu
  exact hy.eR BS
 | kr vs =>
  obtain⟨l,_,hl⟩:=h
  obtain⟨u,hu,BS⟩:=qF (show AV.iq d vs=true from hr)
  obtain⟨y,hy⟩:=hl.mem_left u hu
  cases u with
  | aq i=>exact C1.eR (c:=c) (G:=G) (w:=w) (v := .aq i) hy BS
  | agg cs =>
   obtain⟨l,_,hl⟩:=hy
   obtain⟨u,hu,BS⟩:=qF (show AV.iq d cs=true from BS)
   obtain⟨y,hy⟩:=hl.mem_left u hu
   exact hy.eR BS
  | _=>first|(cases BS;done)|exact hy.elim
 | dw f vs =>
  obtain⟨l,_,hl⟩:=h
  obtain⟨u,hu,BS⟩:=qF (show AV.iq d vs=true from hr)
  obtain⟨y,hy⟩:=hl.mem_left u hu
  rcases hy.inv with ⟨v,rfl,_⟩|⟨cs,l,rfl,_,hl⟩|h1
  .cases BS
  .obtain⟨u,hu,BS⟩:=qF (show AV.iq d cs=true from BS)
   obtain⟨y,hy⟩:=hl.mem_left u hu
   exact hy.eR BS
  .exact h1.eR BS
 | ptr i o=>exact C1.eR (c:=c) (G:=G) (w:=w) (v := .ptr i o) h hr
 | row i=>exact C1.eR (c:=c) (G:=G) (w:=w) (v := .row i) h hr
 | fh i k o=>exact C1.eR (c:=c) (G:=G) (w:=w) (v := .fh i k o) h hr
 | aq i=>exact C1.eR (c:=c) (G:=G) (w:=w) (v := .aq i) h hr
 | sub i k o z=>exact C1.eR (c:=c) (G:=G) (w:=w) (v := .sub i k o z) h hr
 | fL i k o z=>exact C1.eR (c:=c) (G:=G) (w:=w) (v := .fL i k o z) h hr
 | mp i=>exact C1.eR (c:=c) (G:=G) (w:=w) (v := .mp i) h hr
 | _=>cases hr
theorem Inv.Mr(h:Inv c G s a w){d:Nat}(hd:s.ae d=none):(∀ i,(s.sl i).refs d=false)/\∀ i o,s.ae i=some o->o.refs d=false:=by
 refine⟨λ i=>?_,λ i o ho=>?_⟩
 .cases hr:(s.sl i).refs d with
  | false=>rfl
  | true=>exact absurd hd ((h.ar i).eR hr)
 .cases o with
  | row e τ xs=>rfl
  | aq τ xs=>rfl
  | map m=>rfl
  | box cs =>
   cases hr:au.refs d (.box cs) with
   | false=>rfl
   | true =>
    obtain⟨b,l,t,_,_,k3⟩:=h.aC i _ ho
    obtain⟨u,hu,BS⟩:=qF (show AV.iq d cs=true from hr)
    obtain⟨y,hy⟩:=k3.mem_left u hu
    exact absurd hd (hy.eR BS)
theorem Jx(h0:Inv c G s a w){d:Option Nat}{v:AV}{ob:Option au}{a':Act}(EV:tz d=true)(tC:∀ i o,d=some i->ob=some o->s.ae i=none)(h:vQ c G s.sl s.ar.length s.ae d a w v ob a' w') :
  ∃ G',Inv c G' (s.lr d v ob) a' w':=by
 obtain⟨x,S',rfl,hI,hx⟩:=h
 cases ob with
 | none =>
  refine⟨⟨S',G.η,G.φ⟩,?_⟩
  have:s.lr d v none=s.put d v:=by cases d<;>rfl
  rw[this]
  exact Inv.put (s:=s) hI hx
 | some o =>
  obtain⟨hL,hN,hb⟩:=hx
  have hd:∃ i,d=some i:=by cases o<;>first|exact⟨_,hL.choose_spec.1⟩|exact hL.elim
  obtain⟨i,rfl⟩:=hd
  have hi:=tC i o rfl rfl
  have ug:Inv c ⟨S',G.η,G.φ⟩ s a w':=hI
  obtain⟨GM,GN⟩:=ug.Mr hi
  have Zi:o.refs i=false:=by
   cases o with
   | row e τ xs=>rfl
   | aq τ xs=>rfl
   | map m=>rfl
   | box cs =>
    cases hr:au.refs i (.box cs) with
    | false=>rfl
    | true =>
     obtain⟨b,l,t,_,_,k3⟩:=hN
     obtain⟨u,hu,BS⟩:=qF (show AV.iq i cs=true from hr)
     obtain⟨y,hy⟩:=k3.mem_left u hu
     exact absurd hi (hy.eR BS)
  have rM:OR c ⟨S',λ j=>if j=i then x else G.η j,G.φ⟩ (λ j=>if j=i then some o else s.ae j) w' i o:=by
   cases o with
   | box cs =>
    obtain⟨b,l,t,k1,k2,k3⟩:=hN
    refine⟨b,l,t,by simp[k1],k2,k3.imp λ u y hu hy=>hy.mono (λ j hj=>?_) (λ _ h=>h) (λ _ _=>rfl)⟩
    have fP:j≠i:=λ e=>by
     subst e
     have:=nP hu hj
     rw[show AV.iq j cs=au.refs j (.box cs) from rfl,Zi] at this
     cases this
    simp only[a1B fP]
    exact⟨ft.refl _,trivial⟩
   | row e τ xs =>
    obtain⟨l,k1,k2,k3⟩:=hN
    exact⟨l,by simpa using k1,k2,k3⟩
   | aq τ xs=>exact hN.elim
   | map m =>
    obtain⟨b,es,clock,k1,k2,k3⟩:=hN
    exact⟨b,es,clock,by simp[k1],k2,k3⟩
  have QM:cp (some o)=false:=by
   cases o with
   | aq τ xs=>exact hN.elim
   | _=>rfl
  have h4:=bc.newObj ug i o x hi GM GN Zi rM QM (.inr (a2n EV)) (λ b LI=>by
   obtain⟨q1,q2,q3⟩:=hb b LI
   have hle:=h0.aQ.size
   refine⟨by omega,q3,q2,λ j p TZ JX=>?_,λ j τ xs hj JX=>?_⟩
   .have:=(h0.place j p b TZ JX).2.2
    omega
   .have:=(h0.aI.pl j τ xs b hj JX).2.2.1
    omega)
  refine⟨⟨S',λ j=>if j=i then x else G.η j,G.φ⟩,?_⟩
  unfold Inv
  have cu:(s.lr (some i) v (some o)).ae=λ j=>if j=i then some o else s.ae j:=by
   funext j
   rw[zH]
   by_cases hj:j=i
   .subst hj;simp
   .have:¬ (some i=some j):=by simp;exact λ e=>hj e.symm
    rw[a1B this,a1B hj]
  rw[Hv,cu,It]
  refine bc.put h4 ?_
  cases o with
  | box cs =>
   obtain⟨j,hj,rfl⟩:=hL
   simp only[a1w] at hj
   subst hj
   obtain⟨b,l,t,k1,k2,k3⟩:=hN
   exact⟨b,by simp[k1],k1,by simp[im]⟩
  | row e τ xs =>
   obtain⟨j,hj,rfl⟩:=hL
   simp only[a1w] at hj
   subst hj
   obtain⟨l,k1,k2,k3⟩:=hN
   refine⟨by simp,by simp[isRow],?_⟩
   rcases k1.2 with ⟨rfl,_⟩|⟨g,cap,cur,rfl,_⟩
   .exact⟨_,_,_,rfl⟩
   .exact⟨_,_,_,rfl⟩
  | aq τ xs=>exact hN.elim
  | map m =>
   obtain⟨j,hj,rfl⟩:=hL
   simp only[a1w] at hj
   subst hj
   obtain⟨b,es,clock,k1,k2,k3⟩:=hN
   exact⟨by simp,by simp[E6],b,k1⟩
theorem RZ(h:Inv c G s a w)(o:Oper):Inv c G (s.fresh o) a w:=by
 unfold ag.fresh
 split
 .rename_i d _ _
  obtain⟨h1,_,_⟩:=h.clear d
  have cu:ag.ae { s.b8 d with aC:=bK d (s.b8 d).aC }=λ i=>if i=d then none else (s.b8 d).ae i:=by
   funext i
   exact fj d _ i
  unfold Inv
  show bc c G (s.b8 d).sl (s.b8 d).ar.length (ag.ae { s.b8 d with aC:=bK d (s.b8 d).aC }) a w
  rw[cu,show (s.b8 d).ar.length=s.ar.length from by simp[ag.b8]]
  exact h1
 .exact h
theorem Qv(s:ag)(o:Oper)(j:Nat):(s.ae j=none->(s.fresh o).ae j=none)/\(uE o.op=true->o.dst=some j->(s.fresh o).ae j=none):=by
 unfold ag.fresh
 split
 .rename_i d hc hd
  have cu:ag.ae { s.b8 d with aC:=bK d (s.b8 d).aC } j=if j=d then none else (s.ae j).map (au.kill d):=by
   show ae (bK d (s.b8 d).aC) j=_
   rw[fj]
   have:=congrFun (eU s d) j
   show (if j=d then none else (s.b8 d).ae j)=_
   rw[this]
  rw[cu]
  refine⟨λ h=>by rw[h];simp,λ _ hj=>?_⟩
  rw[hd] at hj
  simp only[a1w] at hj
  rw[a1S hj.symm]
 .rename_i ky
  exact⟨λ h=>h,λ hc hd=>(ky j hc hd).elim⟩
theorem zt:∀ (l:List Oper) {s:ag},Inv c G s a w->Inv c G (l.foldl ag.fresh s) a w
 | [],_,h=>h
 | o::r,_,h=>zt r (RZ h o)
theorem xb:∀ (l:List Oper) (s:ag) (j:Nat),(s.ae j=none->(l.foldl ag.fresh s).ae j=none)/\(∀ o∈l,uE o.op=true->o.dst=some j->(l.foldl ag.fresh s).ae j=none)
 | [],s,j=>⟨λ h=>h,by simp⟩
 | o::r,s,j=>by
  obtain⟨h1,h2⟩:=xb r (s.fresh o) j
  obtain⟨h3,h4⟩:=Qv s o j
  refine⟨λ h=>h1 (h3 h),λ p hp hc hd=>?_⟩
  rcases a1N.1 hp with rfl|hp
  .exact h1 (h4 hc hd)
  .exact h2 p hp hc hd
theorem La{E:Env}{lk:Nat->Option au}{f:FuncId}{Ts:List TypeId}{vs:List AV}{vc:Vc}{v:AV}{ob:Option au}(h:CE E lk f Ts vs=some (vc,v,ob)):ob=none:=by
 unfold CE at h
 repeat' split at h
 all_goals first
  | (simp only[a1w,a1y] at h;exact h.2.2.symm)
  | cases h
theorem Jj{E:Env}{lk:Nat->Option au}{g:AV}{Ts:List TypeId}{vs:List AV}{vc:Vc}{v:AV}{ob:Option au}(h:yb E lk g Ts vs=some (vc,v,ob)):ob=none:=by
 unfold yb at h
 split at h
 .rename_i r hr
  repeat' split at hr
  all_goals first
   | (simp only[a1w] at hr h;subst hr;simp only[a1y] at h;exact h.2.2.symm)
   | cases hr
 .repeat' split at h
  all_goals first
   | (simp only[a1w,a1y] at h;exact h.2.2.symm)
   | cases h
theorem Hn{E:Env}{lk:Nat->Option au}{ev:Operand->AV}{o:Oper}{vc:Vc}{v:AV}{ob:au}(h:Fm E lk ev o=some (vc,v,some ob)):uE o.op=true:=by
 unfold Fm at h
 split at h
 case h_4 T bl=>rw[bl];rfl
 case h_5 T x bl=>rw[bl];rfl
 case h_7 T n ps bl=>rw[bl];rfl
 case h_21 T bl=>rw[bl];rfl
 case h_19 T x y bl=>rw[bl];rfl
 case h_20 cl bl =>
  split at h
  .repeat' split at h
   all_goals first
    | (simp at h;done)
    | cases h
  .rename_i ku
   rw[bl]
   simp[uE,ku]
  .exact absurd (La h) (by simp)
  .split at h
   .exact absurd (La h) (by simp)
   .exact absurd (Jj h) (by simp)
   .exact absurd (Jj h) (by simp)
   .cases h
  .cases h
 all_goals (repeat' split at h)
 all_goals first
  | (simp at h;done)
  | cases h
end
end Go.Proofs.YtaaamahdcpcofaaDoor

namespace Go.Proofs.YtaaamahdcpcofaaDoor
theorem Bh{l:List Oper}{D:Nat->Prop}(hD:∀ (k:Nat),D k->∀ (o:Oper),l[k]?=some o->∀ e∈o.after.toList,Region.binds .any e=true->D e.on):∀ (i:Nat) (o:Oper),l[i]?=some o->(∀ e∈o.after.toList,Region.binds .any e=true->D e.on) ->
  ∀ k,Nat.testBit ((bI l []).getD i 0) k=true->D k:=by
 obtain⟨r,h1,h2,h3⟩:=vT l []
 rw[h1]
 simp only[a2K,a2b,a3j] at h3 ⊢
 intro i
 induction i using Nat.strongRecOn with
 | _ i ih =>
  intro o ho a0r k hk
  obtain⟨e,he,hb,h⟩:=h3 i o ho k hk
  have VE:=a0r e he hb
  rcases h with rfl|⟨bC,h⟩
  .exact VE
  .have T3:i<l.length:=(a2a.1 ho).1
   have hp:l[e.on]?=some (l[e.on]'(by omega)):=a2m (by omega)
   exact ih e.on bC _ hp (λ e' yn cm=>hD e.on VE _ hp e' yn cm) k h
theorem bY{l:List Oper}(h:backward l=true):∀ (i:Nat) (o:Oper),l[i]?=some o->∀ e∈o.after.toList,Region.binds .any e=true->e.on<i:=by
 intro i o ho e he hb
 unfold backward at h
 rw[a2e] at h
 have hi:i<l.length:=(a2a.1 ho).1
 have:=h i (by simpa using hi)
 rw[ho] at this
 simp only[a2e] at this
 have:=this e he
 rw[hb] at this
 simpa [Nat.blt_eq] using this
theorem Bz:∀ {ds:List (Option Nat)},distinct ds=true->(∀ d∈ds,∃ t,d=some t)/\∀ (j k t:Nat),ds[j]?=some (some t)->ds[k]?=some (some t)->j=k
 | [],_=>⟨by simp,by simp⟩
 | none::_,h=>by cases h
 | some d::r,h=>by
  simp only[distinct] at h
  split at h
  .cases h
  .rename_i Qy
   obtain⟨h1,h2⟩:=Bz h
   have ky:∀ x∈r,x≠some d:=by
    intro x hx e
    subst e
    rw[a3i] at Qy
    have:=Qy _ hx
    simp at this
   refine⟨λ x hx=>?_,λ j k t hj hk=>?_⟩
   .rcases a1N.1 hx with rfl|hx
    .exact⟨d,rfl⟩
    .exact h1 x hx
   .cases j with
    | zero =>
     simp at hj
     subst hj
     cases k with
     | zero=>rfl
     | succ k=>exact absurd rfl (ky _ (List.mem_of_getElem? (by simpa using hk)))
    | succ j =>
     cases k with
     | zero =>
      simp at hk
      subst hk
      exact absurd rfl (ky _ (List.mem_of_getElem? (by simpa using hj)))
     | succ k=>rw[h2 j k t (by simpa using hj) (by simpa using hk)]
theorem mem_ready{ops:Array Oper}{listed:Array Bool}{i:Nat}(hs:listed.size=ops.size):i∈Region.ready .any ops listed↔∃ o,ops[i]?=some o/\listed.getD i false=false/\∀ e∈o.after.toList,Region.binds .any e=true->listed.getD e.on false=true:=by
 unfold Region.ready
 simp only[a2N,a3I,a1z,a2k]
 constructor
 .rintro⟨hi,h1,h2⟩
  have ho:ops[i]?=some ops[i]:=a2x hi
  rw[ho] at h2
  simp only[a5e,a4i] at h2
  refine⟨_,ho,?_,λ e he hb=>?_⟩
  .have:i<listed.size:=by omega
   simpa [Array.getD_eq_getD_getElem?,this] using h1
  .rw[a4B] at h2
   have:=h2 e (by simpa using he)
   simpa [hb] using this
 .rintro⟨o,ho,h1,h2⟩
  have hi:i<ops.size:=(a2z.1 ho).1
  refine⟨hi,?_,?_⟩
  .have:i<listed.size:=by omega
   simpa [Array.getD_eq_getD_getElem?,this] using h1
  .rw[ho]
   simp only[a5e,a4i]
   rw[a4B]
   intro e he
   cases hb:Region.binds .any e with
   | false=>simp
   | true=>simp[h2 e (by simpa using he) hb]
theorem qp{listed:Array Bool}{i k:Nat}(hi:i<listed.size):(listed.setIfInBounds i true).getD k false=true↔listed.getD k false=true\/k=i:=by
 rw[a2f,a2f,a4I]
 by_cases h:i=k
 .subst h;simp[hi]
 .simp[h,Ne.symm h]
section
variable {c:Ctx} {G:Gh} {s:ag} {a:Act} {w w':World}
theorem F8(hE:bD c.P c.E){ops:Array Oper}{m:Nat}(dL:backward ops.toList=true)(qU:∀ j o,m<=j->ops.toList[j]?=some o->∀ k,k<j->Nat.testBit ((bI ops.toList []).getD j 0) k=true)
  {Q:ag->Prop} {Q':Exit->Act->World->Prop} (hQ:∀ G s a w,Inv c G s a w->Q s->Q' .normal a w) :
  ∀ (fuel j:Nat) (kn:List (Nat×Bool)) (G:Gh) (s:ag) (a:Act) (w:World) (listed:Array Bool),m<=j->ops.size<=j+fuel->listed.size=ops.size->(∀ k,k<ops.size->(listed.getD k false=true↔k<j)) ->
   Inv c G s a w->gn c.E ops (ops.toList.drop j) kn Q s->wpAny c.P .any ops Q' fuel listed a w:=by
 intro fuel
 induction fuel with
 | zero =>
  intro j kn G s a w listed Ze hf cj hl hI hr
  have uV:ops.toList.drop j=[]:=a3u (by simp;omega)
  rw[uV] at hr
  refine⟨?_,hQ _ _ _ _ hI hr⟩
  apply a3q.2
  intro i hi
  obtain⟨o,ho,h1,_⟩:=(mem_ready cj).1 hi
  have bC:=(a2z.1 ho).1
  have:=(hl i bC).2 (by omega)
  rw[h1] at this
  cases this
 | succ fuel ih =>
  intro j kn G s a w listed Ze hf cj hl hI hr
  by_cases hj:j<ops.size
  .have ho:ops[j]?=some ops[j]:=a2x hj
   have YY:ops.toList.drop j=ops[j]::ops.toList.drop (j+1):=by
    rw[List.drop_eq_getElem_cons (by simpa using hj)]
    simp
   rw[YY] at hr
   constructor
   .intro uV
    have:j∈Region.ready .any ops listed:=(mem_ready cj).2 ⟨_,ho,by
     cases hb:listed.getD j false with
     | false=>rfl
     | true=>have:=(hl j hj).1 hb;omega,λ e he hb=>by
     have:=bY dL j ops[j] (by simp) e he hb
     exact (hl e.on (by omega)).2 this⟩
    rw[uV] at this
    cases this
   .intro i hi
    obtain⟨o,cr,h1,h2⟩:=(mem_ready cj).1 hi
    have BO:=(a2z.1 cr).1
    have Ph:j<=i:=by
     rcases a2B i j with h|h
     .have:=(hl i BO).2 h
      rw[h1] at this
      cases this
     .exact h
    have yo:i=j:=by
     rcases a2B j i with h|h
     .have gQ:=Bh (l:=ops.toList) (D:=λ k=>k<j) (λ k hk o' cF e he hb=>by
       have:=bY dL k o' cF e he hb;omega) i o (by simpa using cr) (λ e he hb=>by
        have bC:=bY dL i o (by simpa using cr) e he hb
        exact (hl e.on (by omega)).1 (h2 e he hb)) j (qU i o (by omega) (by simpa using cr) j h)
      omega
     .omega
    subst yo
    have hoe:o=ops[i]:=by rw[ho] at cr;exact (a3M cr).symm
    have uX:∀ k,k<ops.size->((listed.setIfInBounds i true).getD k false=true↔k<i+1):=λ k hk=>by
     rw[qp (by omega),hl k hk];omega
    unfold wpOp
    simp only[ho]
    have r7:=y8 hE hI hr
    split at r7
    .rename_i hw
     rw[a1S hw]
     exact .inl (a3k (λ a' w' ⟨G',s',dv,h1,h2⟩=>ih (i+1) dv G' s' a' w' _ (by omega) (by omega) (by rw[a2E];exact cj) uX h1 h2) (r7 Q'))
    .rename_i hw
     rw[a1B hw]
     obtain⟨G',s',dv,h1,h2⟩:=r7
     exact ih (i+1) dv G' s' _ w _ (by omega) (by omega) (by rw[a2E];exact cj) uX h1 h2
  .have uV:ops.toList.drop j=[]:=a3u (by simp;omega)
   rw[uV] at hr
   have r6:Region.ready .any ops listed=[]:=by
    apply a3q.2
    intro i hi
    obtain⟨o,ho,h1,_⟩:=(mem_ready cj).1 hi
    have bC:=(a2z.1 ho).1
    have:=(hl i bC).2 (by omega)
    rw[h1] at this
    cases this
   exact⟨λ _=>hQ _ _ _ _ hI hr,λ i hi=>by rw[r6] at hi;cases hi⟩
theorem DX{l:List Oper}{ops:Array Oper}(hl:ops.toList=l){bits:Nat}{o:Oper}{DC:Bool}(h:Inv c G s a w)(hg:iv l bits s o DC):Region.wanted o (yielded ops a.tmps)=DC:=by
 unfold iv at hg
 split at hg
 .rename_i hn
  simp[Region.wanted,hn,hg]
 .rename_i g want hn
  obtain⟨t,v,h1,_,h3,h4⟩:=hg
  have hx:=bf h (.tmp t)
  rw[h3] at hx
  have hs:uO ops g=some t:=by
   unfold uO
   rw[<-h1]
   unfold bG
   rw[<-hl]
   simp
  unfold GV at h4
  split at h4
  .have hy:=ES (s:=s) hs hx
   simp[Region.wanted,hn,hy,h4]
  .have hy:=BK (s:=s) hs hx
   simp[Region.wanted,hn,hy,h4]
  .exact h4.elim
theorem RJ(hE:bD c.P c.E){ops:Array Oper}{m:Nat}{es:List HN}{s0:ag}(dL:backward ops.toList=true)(hm:m<=ops.size)
  (qU:∀ j o,m<=j->ops.toList[j]?=some o->∀ k,k<j->Nat.testBit ((bI ops.toList []).getD j 0) k=true)
  (qV:∀ j k t,j<m->k<m->bG ops.toList j=some t->bG ops.toList k=some t->j=k)
  (VG:∀ i o,i<m->ops.toList[i]?=some o->KO c.E ops.toList m ((bI ops.toList []).getD i 0) (er ops.toList es s0 (List.range i)) o (es.getD i ⟨false, .any,none⟩))
  (EV:∀ i o,i<m->ops.toList[i]?=some o->tz o.dst=true) (rZ:∀ i o t,i<m->ops.toList[i]?=some o->uE o.op=true->o.dst=some t->s0.ae t=none)
  {Q:ag->Prop} {Q':Exit->Act->World->Prop} (hQ:∀ G s a w,Inv c G s a w->Q s->Q' .normal a w) {kn:List (Nat×Bool)} (LM:∀ G a w,Inv c G (er ops.toList es s0 (List.range m)) a w->gn c.E ops (ops.toList.drop m) kn Q (er ops.toList es s0 (List.range m))) :
  ∀ (fuel:Nat) (π:List Nat) (G:Gh) (a:Act) (w:World) (listed:Array Bool),ops.size=π.length+fuel->π.Nodup->(∀ k∈π,k<m)->listed.size=ops.size->(∀ k,k<ops.size->(listed.getD k false=true↔k∈π)) ->
   (∀ k∈π,∀ o,ops.toList[k]?=some o->∀ e∈o.after.toList,Region.binds .any e=true->e.on∈π)->Inv c G (er ops.toList es s0 π) a w->wpAny c.P .any ops Q' fuel listed a w:=by
 intro fuel
 induction fuel with
 | zero =>
  intro π G a w listed hf hn bC cj hl uQ hI
  have hlen:=uv m π hn bC
  have nw:∀ k,k<m->k∈π:=λ k hk=>by
   cases hb:decide (k∈π) with
   | true=>exact a2d hb
   | false =>
    have:=uv m (k::π) (a2o.2 ⟨a3e hb,hn⟩) (λ j hj=>by
     rcases a1N.1 hj with rfl|hj
     .exact hk
     .exact bC j hj)
    simp at this
    omega
  suffices ug:Inv c G (er ops.toList es s0 (List.range m)) a w from F8 hE dL qU hQ 0 m kn G (er ops.toList es s0 (List.range m)) a w listed (a2u _) (by omega) cj (λ k hk=>by rw[hl k hk];exact⟨bC k,nw k⟩) ug (LM G a w ug)
  have heq:∀ t,(er ops.toList es s0 π).sl t=(er ops.toList es s0 (List.range m)).sl t/\(er ops.toList es s0 π).ae t=(er ops.toList es s0 (List.range m)).ae t:=λ t =>
   MM (bits:=2 ^ m - 1) qV bC (by simp) hn List.nodup_range (λ k hk _=>⟨nw k hk,by simpa using hk⟩) t (by
    unfold hidden
    rw[a3i]
    intro k hk
    simp only[a3I] at hk
    split
    .split
     .simp[a3L,hk]
     .simp
    .simp)
  unfold Inv at hI ⊢
  rw[GZ] at hI ⊢
  rw[<-funext λ t=>(heq t).1,<-funext λ t=>(heq t).2]
  exact hI
 | succ fuel ih =>
  intro π G a w listed hf hn bC cj hl uQ hI
  by_cases nw:∀ k,k<m->k∈π
  .suffices ug:Inv c G (er ops.toList es s0 (List.range m)) a w from F8 hE dL qU hQ (fuel+1) m kn G (er ops.toList es s0 (List.range m)) a w listed (a2u _) (by have:=uv m π hn bC;omega) cj (λ k hk=>by rw[hl k hk];exact⟨bC k,nw k⟩) ug (LM G a w ug)
   have heq:∀ t,(er ops.toList es s0 π).sl t=(er ops.toList es s0 (List.range m)).sl t/\(er ops.toList es s0 π).ae t=(er ops.toList es s0 (List.range m)).ae t:=λ t =>
    MM (bits:=2 ^ m - 1) qV bC (by simp) hn List.nodup_range (λ k hk _=>⟨nw k hk,by simpa using hk⟩) t (by
     unfold hidden
     rw[a3i]
     intro k hk
     simp only[a3I] at hk
     split
     .split
      .simp[a3L,hk]
      .simp
     .simp)
   unfold Inv at hI ⊢
   rw[GZ] at hI ⊢
   rw[<-funext λ t=>(heq t).1,<-funext λ t=>(heq t).2]
   exact hI
  ·
   have hex:∃ k,k<m/\k∉π/\∀ j,j<k->j∈π:=by
    have:∀ n,(∃ k,k<n/\k<m/\k∉π)->∃ k,k<m/\k∉π/\∀ j,j<k->j∈π:=by
     intro n
     induction n with
     | zero=>rintro⟨k,hk,_⟩;omega
     | succ n Zx =>
      rintro⟨k,hk,Y6,xd⟩
      by_cases hs:∃ k,k<n/\k<m/\k∉π
      .exact Zx hs
      .refine⟨k,Y6,xd,λ j hj=>?_⟩
       cases hb:decide (j∈π) with
       | true=>exact a2d hb
       | false=>exact absurd ⟨j,by omega,by omega,a3e hb⟩ hs
    refine this m ?_
    have h1:∃ k,¬ (k<m->k∈π):=a5n.1 nw
    obtain⟨k,hk⟩:=h1
    have h2:=a4T.1 hk
    exact⟨k,h2.1,h2.1,h2.2⟩
   obtain⟨k0,Tg,ui,QK⟩:=hex
   have QG:ops[k0]?=some (ops[k0]'(by omega)):=a2x (by omega)
   constructor
   .intro uV
    have:k0∈Region.ready .any ops listed:=(mem_ready cj).2 ⟨_,QG,by
     cases hb:listed.getD k0 false with
     | false=>rfl
     | true=>exact absurd ((hl k0 (by omega)).1 hb) ui,λ e he hb=>by
     have QJ:=bY dL k0 ops[k0] (by simp) e he hb
     exact (hl e.on (by omega)).2 (QK e.on QJ)⟩
    rw[uV] at this
    cases this
   .intro i hi
    obtain⟨o,cr,h1,h2⟩:=(mem_ready cj).1 hi
    have BO:=(a2z.1 cr).1
    have ff:ops.toList[i]?=some o:=by simpa using cr
    have uh:i∉π:=λ hh=>by
     have:=(hl i BO).2 hh
     rw[h1] at this
     cases this
    have LK:∀ e∈o.after.toList,Region.binds .any e=true->e.on∈π:=λ e he hb=>by
     have QJ:=bY dL i o ff e he hb
     exact (hl e.on (by omega)).1 (h2 e he hb)
    have Au:=Bh (l:=ops.toList) (D:=λ k=>k∈π) (λ k hk o' cF e he hb=>uQ k hk o' cF e he hb) i o ff LK
    have sW:i<m:=by
     rcases a2B i m with h|h
     .exact h
     .exact absurd (Au k0 (qU i o h ff k0 (by omega))) ui
    have GD:=Bh (l:=ops.toList) (D:=λ k=>k<i) (λ k hk o' cF e he hb=>by
     have:=bY dL k o' cF e he hb;omega) i o ff (λ e he hb=>bY dL i o ff e he hb)
    have E2:=λ t hh=>MM (l:=ops.toList) (es:=es) (s0:=s0) (m:=m) (bits:=(bI ops.toList []).getD i 0) (π:=π) (π':=List.range i) qV bC (by intro k hk;simp at hk;omega) hn a4A
     (λ k hk hb=>⟨Au k hb,by simpa using GD k hb⟩) t hh
    obtain⟨hg,cH,Sh⟩:=VG i o sW ff
    have c8:Na ops.toList m ((bI ops.toList []).getD i 0) (er ops.toList es s0 (List.range i))=Na ops.toList m ((bI ops.toList []).getD i 0) (er ops.toList es s0 π):=by
     funext x
     cases x with
     | tmp t =>
      simp only[Na]
      split
      .rfl
      .rename_i hh
       exact ((E2 t hh).1).symm
     | _=>rfl
    have cu:J7 ops.toList m ((bI ops.toList []).getD i 0) (er ops.toList es s0 (List.range i))=J7 ops.toList m ((bI ops.toList []).getD i 0) (er ops.toList es s0 π):=by
     funext t
     simp only[J7]
     split
     .rfl
     .rename_i hh
      exact ((E2 t hh).2).symm
    have QE:iv ops.toList ((bI ops.toList []).getD i 0) (er ops.toList es s0 π) o (es.getD i ⟨false, .any,none⟩).DC:=by
     unfold iv at hg ⊢
     split
     .rename_i xe
      simpa [xe] using hg
     .rename_i g want xe
      simp only[xe] at hg
      obtain⟨t,b,q1,q2,q3,q4⟩:=hg
      refine⟨t,b,q1,q2,?_,q4⟩
      have Y2:g<m:=Nat.lt_trans (GD g q2) sW
      have hh:hidden ops.toList m ((bI ops.toList []).getD i 0) t=false:=by
       unfold hidden
       rw[a3i]
       intro k hk
       simp only[a3I] at hk
       split
       .rename_i d hd
        split
        .rename_i ym
         have ym:=a1x ym
         subst ym
         have:=qV k g d hk Y2 hd q1
         subst this
         rw[q2];simp
        .simp
       .simp
      exact ((E2 t hh).1).trans q3
    have hw:=DX (ops:=ops) rfl hI QE
    have uU:∀ (G':Gh) (a':Act) (w':World),Inv c G' (er ops.toList es s0 (π++[i])) a' w'->wpAny c.P .any ops Q' fuel (listed.setIfInBounds i true) a' w':=by
     intro G' a' w' ug
     refine ih (π++[i]) G' a' w' _ (by simp;omega) ?_ ?_ (by rw[a2E];exact cj) ?_ ?_ ug
     .rw[a1X]
      exact⟨hn,by simp,λ x hx y hy=>by simp at hy;subst hy;exact λ e=>uh (e ▸ hx)⟩
     .intro k hk
      rcases a1A.1 hk with hk|hk
      .exact bC k hk
      .simp at hk;omega
     .intro k hk
      rw[qp (by omega),hl k hk]
      simp
     .intro k hk o' cF e he hb
      rcases a1A.1 hk with hk|hk
      .exact a3N _ (uQ k hk o' cF e he hb)
      .simp at hk
       subst hk
       rw[ff] at cF
       simp only[a1w] at cF
       subst cF
       exact a3N _ (LK e he hb)
    have EX:bG ops.toList i=o.dst:=by simp[bG,ff]
    unfold wpOp
    simp only[cr]
    cases GP:(es.getD i ⟨false, .any,none⟩).DC with
    | true =>
     rw[GP] at hw
     rw[a1S hw]
     obtain⟨vc,hq,fi⟩:=cH GP
     rw[c8,cu] at hq
     refine .inl (a3k ?_ (Fo hE hI (lk':=J7 ops.toList m ((bI ops.toList []).getD i 0) (er ops.toList es s0 π)) ?_ ?_ hq fi))
     .intro a' w' hd
      obtain⟨G',oo⟩:=Jx hI (EV i o sW ff) (λ t ob ym J1=>by
       rw[J1] at hq
       have R9:=Hn hq
       have h0:=rZ i o t sW ff R9 ym
       have yp:=(iK ops.toList es t π s0 (λ k hk Y5=>by
        have:=qV k i t (bC k hk) sW Y5 (by rw[EX];exact ym)
        subst this
        exact uh hk)).2
       rw[yp,h0]) hd
      refine uU G' a' w' ?_
      rw[uw,EX]
      exact oo
     .intro id ob aN
      unfold J7 at aN
      split at aN
      .cases aN
      .exact aN
     .intro x
      cases x with
      | tmp t =>
       simp only[Na]
       split
       .trivial
       .exact bf hI (.tmp t)
      | const v=>exact bf hI (.const v)
      | global g=>exact bf hI (.global g)
      | func f=>exact bf hI (.func f)
    | false =>
     rw[GP] at hw
     rw[hw]
     obtain⟨hv,J1⟩:=Sh GP
     refine uU G _ w ?_
     rw[uw,EX,hv,J1,Is]
     exact Inv.put (v := .eV) hI rfl
theorem L6{l:List Oper}{K:Prop}(h:Inv c G s a w):uu l s K->K:=by
 induction l with
 | nil=>exact λ h=>h
 | cons o r ih =>
  intro hk
  simp only[uu] at hk
  split at hk
  .exact ih (CN (h.ar _) hk)
  .exact ih hk
theorem K4(hE:bD c.P c.E)(je:c.P.follows .mixedOrders=true){id:Nat}{ops:Array Oper}{Q:ag->Prop}{Q':Exit->Act->World->Prop}(hQ:∀ G s a w,Inv c G s a w->Q s->Q' .normal a w)
  (h:Inv c G s a w) (hd:K3 c.E ops Q s):(Code.region id ops true).wp c.P Q' a w:=by
 unfold K3 at hd
 simp only at hd
 split at hd
 case h_2=>exact hd.elim
 case h_1 hb =>
  simp only[a1z] at hb
  obtain⟨Ii,zx,dL⟩:=hb
  obtain⟨r,YP,YQ,_⟩:=vT ops.toList []
  have LD:(bI ops.toList []).length=ops.size:=by rw[YP];simpa using YQ
  obtain⟨VO,_,T4⟩:=xA (bI ops.toList []) 0 0 (a2u _)
  simp only[a3j] at VO T4
  rw[LD] at VO
  generalize hmd:nT (bI ops.toList []) 0 0=m at *
  have qU:∀ j o,m<=j->ops.toList[j]?=some o->∀ k,k<j->Nat.testBit ((bI ops.toList []).getD j 0) k=true:=by
   intro j o Ze ho k hk
   have hj:j<ops.size:=by have:=(List.getElem?_eq_some_iff.1 ho).1;simpa using this
   have hg:(bI ops.toList [])[j]?=some ((bI ops.toList [])[j]'(by omega)):=a2m (by omega)
   have:=T4 j _ hg Ze
   rw[a2j,hg,a4i,show (bI ops.toList [])[j]'(by omega)=2 ^ j - 1 by omega,a3L]
   simpa using hk
  obtain⟨_,EX⟩:=Bz zx
  have qV:∀ j k t,j<m->k<m->bG ops.toList j=some t->bG ops.toList k=some t->j=k:=by
   have get:∀ j t,j<m->bG ops.toList j=some t->((ops.toList.take m).map (·.dst))[j]?=some (some t):=by
    intro j t hj GJ
    unfold bG at GJ
    simp only[a2W] at GJ
    obtain⟨o,ho,QM⟩:=GJ
    rw[a3d,a2Z,a1S hj,ho]
    simp[QM]
   intro j k t hj hk GJ Y8
   exact EX j k t (get j t hj GJ) (get k t hk Y8)
  obtain⟨es,dv,s',AX,hq⟩:=sD hd
  have hlen:(ops.toList.take m).length=m:=by simp;omega
  have kv:∀ j o,(ops.toList.take m)[j]?=some o->ops.toList[0+j]?=some o:=λ j o ho=>by
   rw[a2Z] at ho
   split at ho
   .simpa using ho
   .cases ho
  obtain⟨QP,Si⟩:=OC (ops.toList.take m) 0 es [] _ s' AX kv rfl rfl
  simp only[a2K,a3j,hlen] at QP Si
  subst Si
  have Vs:Inv c G ((ops.toList.take m).foldl ag.fresh s) a w.drew:=zt _ (bc.drew h)
  refine a5t je ?_
  refine RJ hE (m:=m) (es:=es) (s0:=(ops.toList.take m).foldl ag.fresh s) dL VO qU qV ?_ (λ i o sW ho=>a2e.1 Ii o (a2A (by rw[a2Z,a1S sW];exact ho))) ?_ hQ (kn:=dv) (λ G a w hI=>L6 hI hq) ops.size [] G a _ _ (by simp) (by simp) (by simp) (by simp) ?_ (by simp) Vs
  .intro i o sW ho
   exact QP i o (by rw[a2Z,a1S sW];exact ho)
  .intro i o t sW ho hc ym
   exact (xb (ops.toList.take m) s t).2 o (a2A (by rw[a2Z,a1S sW];exact ho)) hc ym
  .intro k hk
   simp[hk]
end
end Go.Proofs.YtaaamahdcpcofaaDoor

namespace Go.Proofs.YtaaamahdcpcofaaDoor
section
variable {w w':World}
theorem KN.ctx{c c':Ctx}{S:Nat->Prop}{v:Arg}{x:Value}(h:KN c S w v x)(cy:∀ b,St c S b->St c' S b):KN c' S w v x:=by
 cases v with
 | ref v=>obtain⟨b,o,cs,h1,h2,h3⟩:=h;exact⟨b,o,cs,h1,cy b h2,h3⟩
 | val v=>exact h
 | fn f=>exact h
 | dw v=>exact h
 | own v=>exact h
 | box k=>exact h
theorem C1.ctx{c c':Ctx}(hP:c'.P=c.P){G:Gh}{lk:Nat->Option au}{v:AV}{x:Value}(h:C1 c G lk w v x)(cy:∀ b,St c G.S b->St c' G.S b):C1 c' G lk w v x:=by
 cases v with
 | gK v=>obtain⟨b,o,cs,h1,h2,h3⟩:=h;exact⟨b,o,cs,h1,cy b h2,h3⟩
 | jO v=>obtain⟨f,iw,l,h1,h2,h3⟩:=h;exact⟨f,iw,l,h1,hP ▸ h2,h3.imp λ _ _ _ q=>q.ctx cy⟩
 | _=>exact h
theorem TR.ctx{c c':Ctx}(hP:c'.P=c.P){G:Gh}{lk:Nat->Option au}{v:AV}{x:Value}(h:TR c G lk w v x)(cy:∀ b,St c G.S b->St c' G.S b):TR c' G lk w v x:=by
 cases v with
 | aq id=>exact (show C1 c G lk w (.aq id) x from h).ctx hP cy
 | agg cs=>obtain⟨l,h1,h2⟩:=h;exact⟨l,h1,h2.imp λ _ _ _ q=>q.ctx hP cy⟩
 | az v=>exact h
 | any=>trivial
 | _=>exact h.elim
theorem CR.ctx{c c':Ctx}(hP:c'.P=c.P){G:Gh}{lk:Nat->Option au}{v:AV}{x:Value}(h:CR c G lk w v x)(cy:∀ b,St c G.S b->St c' G.S b):CR c' G lk w v x:=by
 cases v with
 | az v=>exact h
 | agg cs=>obtain⟨l,h1,h2⟩:=h;exact⟨l,h1,h2.imp λ _ _ _ q=>q.ctx hP cy⟩
 | any=>exact (show C1 c G lk w (.any) x from h).ctx hP cy
 | eV=>exact (show C1 c G lk w (.eV) x from h).ctx hP cy
 | nil=>exact (show C1 c G lk w (.nil) x from h).ctx hP cy
 | gK v=>exact (show C1 c G lk w (.gK v) x from h).ctx hP cy
 | ptr i o=>exact (show C1 c G lk w (.ptr i o) x from h).ctx hP cy
 | row i=>exact (show C1 c G lk w (.row i) x from h).ctx hP cy
 | fh i j o=>exact (show C1 c G lk w (.fh i j o) x from h).ctx hP cy
 | kr vs=>exact (show C1 c G lk w (.kr vs) x from h).ctx hP cy
 | fn f=>exact (show C1 c G lk w (.fn f) x from h).ctx hP cy
 | aq i=>exact (show C1 c G lk w (.aq i) x from h).ctx hP cy
 | sub i j o z=>exact (show C1 c G lk w (.sub i j o z) x from h).ctx hP cy
 | fL i j o z=>exact (show C1 c G lk w (.fL i j o z) x from h).ctx hP cy
 | dw f cs=>exact (show C1 c G lk w (.dw f cs) x from h).ctx hP cy
 | jO v=>exact (show C1 c G lk w (.jO v) x from h).ctx hP cy
 | mp i=>exact (show C1 c G lk w (.mp i) x from h).ctx hP cy
theorem VR.ctx{c c':Ctx}(hP:c'.P=c.P){G:Gh}{lk:Nat->Option au}{v:AV}{x:Value}(h:VR c G lk w v x)(cy:∀ b,St c G.S b->St c' G.S b):VR c' G lk w v x:=by
 cases v with
 | az v=>exact h
 | agg cs=>obtain⟨l,h1,h2⟩:=h;exact⟨l,h1,h2.imp λ _ _ _ q=>q.ctx hP cy⟩
 | kr vs=>obtain⟨l,h1,h2⟩:=h;exact⟨l,h1,h2.imp λ _ _ _ q=>q.ctx hP cy⟩
 | dw f cs=>obtain⟨l,h1,h2⟩:=h;exact⟨l,h1,h2.imp λ _ _ _ q=>q.ctx hP cy⟩
 | any=>exact (show C1 c G lk w (.any) x from h).ctx hP cy
 | eV=>exact (show C1 c G lk w (.eV) x from h).ctx hP cy
 | nil=>exact (show C1 c G lk w (.nil) x from h).ctx hP cy
 | gK v=>exact (show C1 c G lk w (.gK v) x from h).ctx hP cy
 | ptr i o=>exact (show C1 c G lk w (.ptr i o) x from h).ctx hP cy
 | row i=>exact (show C1 c G lk w (.row i) x from h).ctx hP cy
 | fh i j o=>exact (show C1 c G lk w (.fh i j o) x from h).ctx hP cy
 | fn f=>exact (show C1 c G lk w (.fn f) x from h).ctx hP cy
 | aq i=>exact (show C1 c G lk w (.aq i) x from h).ctx hP cy
 | sub i j o z=>exact (show C1 c G lk w (.sub i j o z) x from h).ctx hP cy
 | fL i j o z=>exact (show C1 c G lk w (.fL i j o z) x from h).ctx hP cy
 | jO v=>exact (show C1 c G lk w (.jO v) x from h).ctx hP cy
 | mp i=>exact (show C1 c G lk w (.mp i) x from h).ctx hP cy
theorem OR.ctx{c c':Ctx}(hP:c'.P=c.P){G:Gh}{lk:Nat->Option au}{id:Nat}{o:au}(h:OR c G lk w id o)(cy:∀ b,St c G.S b->St c' G.S b):OR c' G lk w id o:=by
 cases o with
 | box cs=>obtain⟨b,l,t,h1,h2,h3⟩:=h;exact⟨b,l,t,h1,h2,h3.imp λ _ _ _ q=>q.ctx hP cy⟩
 | row e τ xs=>exact h
 | aq τ xs=>exact h
 | map m=>exact h
def Ctx.fz(c:Ctx)(w:World)(S:Nat->Prop)(Z:Nat->Prop):Ctx :=
 { c with w0:=w,X:=λ b=>((c.w0.heap.size<=b/\b<w.heap.size)\/c.X b)/\¬ Z b,S0:=S,Z:=λ b=>Z b\/c.Z b }
theorem Inv.fz{c:Ctx}{G:Gh}{s:ag}{a:Act}(h:Inv c G s a w){Z:Nat->Prop}(hZ:∀ b,Z b->tX c G s.ae w b):Inv (c.fz w G.S Z) G s a w:=by
 have cy:∀ b,St c G.S b->St (c.fz w G.S Z) G.S b:=λ b hb=>by
  rcases hb with hb|⟨h1,h2,h3⟩
  .exact .inl hb
  .refine .inr ⟨a2c h1 h.aQ.size,λ q=>q.1.elim (λ q=>by omega) h2,λ q=>q.elim (λ z=>(hZ b z).1.elim (λ q=>by omega) h2) h3⟩
 exact {
  defers:=h.defers,size:=h.size
  aQ:=cP.refl _ _
  lE:=⟨λ b hb=>hb.1.elim (λ q=>q.2) λ q=>a2c (h.lE.1 b q) h.aQ.size,λ g hg=>by
   obtain⟨_,h2,h3,_⟩:=h.lE.2 g hg
   obtain⟨g1,g2⟩:=h.SU.2 g hg
   exact⟨g1,λ q=>q.1.elim (λ q=>by omega) h2,h.ed g g1,g2⟩⟩
  fc:=λ b _ _=>a3G
  sX:=λ b hb=>hb
  ed:=h.ed
  ar:=λ i=>(h.ar i).ctx (c:=c) (c':=c.fz w G.S Z) rfl cy
  aC:=λ id o ho=>(h.aC id o ho).ctx (c:=c) (c':=c.fz w G.S Z) rfl cy
  place:=λ id o b ho hb=>by
   obtain⟨h1,h2,h3⟩:=h.place id o b ho hb
   exact⟨.inr ⟨h1.imp (λ q=>⟨q,h3⟩) (λ q=>q),λ z=>(hZ b z).2.2.2.1 id o ho hb⟩,h2,h3⟩
  apart:=h.apart
  aI:={
   tr:=h.aI.tr,nd:=h.aI.nd,ap:=h.aI.ap
   pl:=λ id τ xs b ht hb=>by
    obtain⟨h1,h2,h3,h4⟩:=h.aI.pl id τ xs b ht hb
    exact⟨.inr ⟨h1.imp (λ q=>⟨q,h3⟩) (λ q=>q),λ z=>(hZ b z).2.2.2.2 id τ xs ht hb⟩,h2,h3,h4⟩ }
  root:=h.root,kd:=h.kd,dE:=h.dE,fW:=h.fW }
theorem Inv.a0R{c:Ctx}{G:Gh}{s:ag}{a:Act}{G':Gh}{s':ag}{a':Act}(h:Inv c G s a w){Z:Nat->Prop}(hZ:∀ b,Z b->tX c G s.ae w b)(h':Inv (c.fz w G.S Z) G' s' a' w') :
  Inv c G' s' a' w'/\∀ b,Z b->w'.heap[b]?=w.heap[b]?/\tX c G' s'.ae w' b:=by
 have cy:∀ b,St (c.fz w G.S Z) G'.S b->St c G'.S b:=λ b hb=>by
  rcases hb with hb|⟨h1,h2,h3⟩
  .exact .inl hb
  .have hz:¬ Z b:=λ z=>h3 (.inl z)
   refine .inr ⟨?_,λ q=>h2 ⟨.inr q,hz⟩,λ q=>h3 (.inr q)⟩
   rcases a2B b c.w0.heap.size with q|q
   .exact q
   .exact absurd ⟨.inl ⟨q,h1⟩,hz⟩ h2
 have back:∀ b,(w.heap.size<=b\/(c.fz w G.S Z).X b)->c.w0.heap.size<=b\/c.X b:=λ b hb=>by
  have:=h.aQ.size
  exact hb.elim (λ q => .inl (by omega)) λ q=>q.1.elim (λ q => .inl q.1) .inr
 refine⟨{
  defers:=h'.defers,size:=h'.size
  aQ:=h.aQ.trans h'.aQ λ i hi hx=>hx.1.elim (λ q=>by omega) (λ q=>q)
  lE:=h.lE
  fc:=λ b hb hx=>(h'.fc b (a2c hb h.aQ.size) (λ q=>q.1.elim (λ q=>by omega) hx)).trans (h.fc b hb hx)
  sX:=λ b hb=>h'.sX b (h.sX b hb)
  ed:=h'.ed
  ar:=λ i=>(h'.ar i).ctx (c:=c.fz w G.S Z) (c':=c) rfl cy
  aC:=λ id o ho=>(h'.aC id o ho).ctx (c:=c.fz w G.S Z) (c':=c) rfl cy
  place:=λ id o b ho hb=>by
   obtain⟨h1,h2,h3⟩:=h'.place id o b ho hb
   exact⟨back b h1,h2,h3⟩
  apart:=h'.apart
  aI:={
   tr:=h'.aI.tr,nd:=h'.aI.nd,ap:=h'.aI.ap
   pl:=λ id τ xs b ht hb=>by
    obtain⟨h1,h2,h3,h4⟩:=h'.aI.pl id τ xs b ht hb
    exact⟨back b h1,h2,h3,h4⟩ }
  root:=h'.root,kd:=h'.kd,dE:=h'.dE,fW:=h'.fW },λ b z=>?_⟩
 obtain⟨z1,z2,z3,z4,z5⟩:=hZ b z
 have QL:¬ (c.fz w G.S Z).X b:=λ q=>q.2 z
 have ky:¬ (w.heap.size<=b\/(c.fz w G.S Z).X b):=λ q=>q.elim (λ q=>by omega) QL
 exact⟨h'.aQ.block b z3 QL,z1,λ q=>z2 ((h'.fc b z3 QL).1 q),a2c z3 h'.aQ.size,λ i o cr hb=>ky (h'.place i o b cr hb).1,λ j τ xs hj hb=>ky (h'.aI.pl j τ xs b hj hb).1⟩
end
end Go.Proofs.YtaaamahdcpcofaaDoor

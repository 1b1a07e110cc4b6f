/- VmTree, VmMark, VmOwnOps, VmBuild, VmBuild2, VmSt, VmStep, VmDraw, VmDraw2, VmDraw3, VmFrz. -/
import Derived.Test.YtncejbehidimmaaGreatDoorVmEff
import Derived.Eval
set_option linter.all false
namespace Go.Proofs.YtncejbehidimmaaGreatDoor
def a9T:=@Go.Value.tuple.injEq
def b1S:=@List.toArray_inj
def a9p:=@List.mem_cons_of_mem
def a8M:=@List.nodup_append
def a9i:=@List.cons_append
def a9x:=@List.nodup_nil
def a8V:=@List.nodup_cons
def a9Q:=@List.take_append_drop
def b1T:=@List.map_set
def b0Y:=@List.set_append_right
def b1U:=@List.eq_of_mem_replicate
def a9O:=@Bool.or_eq_true
def b1h:=@Nat.lt_irrefl
def b2B:=@Array.toList_append
def b0u:=@List.mem_cons_self
def a9Z:=@List.mem_range
def b1j:=@Classical.byContradiction
def b1V:=@List.nodup_range
def b0P:=@List.Nodup.length_le_of_subset
def a9S:=@Go.Oper.wp_mono
def b0w:=@List.getElem?_eq_none
def b1b:=@Option.getD_some
def b0x:=@List.foldl_cons
def b0T:=@List.foldl_append
def b1w:=@List.range_succ
def b0Z:=@List.singleton_append
def b0n:=@List.length_erase_of_mem
def b0q:=@List.length_pos_of_mem
def b1o:=@List.any_eq_false
def a9H:=@Array.getElem?_eq_some_iff
def b2J:=@Ne.symm
def b0Q:=@List.eq_nil_iff_forall_not_mem
def a9P:=@Array.size_setIfInBounds
def b1k:=@of_decide_eq_false
def b1a:=@Nat.testBit_two_pow_sub_one
def b0C:=@Classical.not_forall
def b0A:=@Classical.not_imp
def a9Y:=@List.mem_append_left
section
variable {c:Ctx} {G:Gh} {sl:Nat->AV} {n:Nat} {lk:Nat->Option au} {a:Act} {w w':World}
theorem aV.NK(h:aV c G sl n lk a w)(id:Nat)(τ:Ty)(xs:List τ.den)(XP:Value)(fp:List Nat)(aL:lk id=none)(hs:∀ i,(sl i).refs id=false)(ho:∀ i o,lk i=some o->o.refs id=false)
  (a6c:c.R id=none) (hT:gG w XP τ xs fp) (cX:fp.Nodup) (W3:∀ b∈fp,(c.w0.heap.size<=b\/c.X b)/\¬ G.S b/\b<w.heap.size/\(∀ i o,lk i=some o->dt (G.η i)≠some b)/\∀ j τ xs,lk j=some (.aA τ xs)->b∉G.φ j) :
  aV c ⟨G.S,λ i=>if i=id then XP else G.η i,λ i=>if i=id then fp else G.φ i⟩ sl n (λ i=>if i=id then some (.aA τ xs) else lk i) a w:=by
 have ff:∀ j,j≠id->dX (lk j) ((λ i=>if i=id then some (au.aA τ xs) else lk i) j)/\(if j=id then XP else G.η j)=G.η j:=λ j hj=>by simp only[a8v hj];exact⟨dX.refl _,ae⟩
 have IJ:dt XP=none:=by
  obtain⟨v,l,_,_,h1,_⟩:=hT;rw[h1];rfl
 have hblk:∀ i b,dt (if i=id then XP else G.η i)=some b->i≠id/\dt (G.η i)=some b:=λ i b hb=>by
  by_cases hi:i=id
  .rw[a8A hi,IJ] at hb;cases hb
  .rw[a8v hi] at hb;exact⟨hi,hb⟩
 have hold:∀ j aO cI,(if j=id then some (au.aA τ xs) else lk j)=some (.aA aO cI)->j≠id->lk j=some (.aA aO cI):=λ j aO cI k hj=>by rwa [a8v hj] at k
 exact {
  defers:=h.defers,size:=h.size,aE:=h.aE,jN:=h.jN,ew:=h.ew,sX:=h.sX,dH:=h.dH
  aw:=λ i=>(h.aw i).mono (λ j hj=>ff j (λ e=>by subst e;rw[hs i] at hj;cases hj)) (λ _ h=>h) (λ _ _=>rfl)
  aC:=λ i o' bV=>by
   by_cases hi:i=id
   .subst hi;simp only[b0k,a8r] at bV;subst bV;trivial
   .simp only[a8v hi] at bV;exact (h.aC i o' bV).mono (by simp only[a8v hi]) (λ _ _=>rfl) (λ j hj=>ff j (λ e=>by subst e;rw[ho i o' bV] at hj;cases hj)) (λ _ h=>h) (λ _ _=>rfl)
  place:=λ i o' b bV hb=>by
   obtain⟨hi,hb⟩:=hblk i b hb;simp only[a8v hi] at bV;exact h.place i o' b bV hb
  apart:=λ i j o1 o2 b bV Fb hb cq=>by
   obtain⟨hi,hb⟩:=hblk i b hb;obtain⟨hj,cq⟩:=hblk j b cq;simp only[a8v hi] at bV;simp only[a8v hj] at Fb;exact h.apart i j o1 o2 b bV Fb hb cq
  aM:={
   tr:=λ j aO cI k=>by
    by_cases hj:j=id
    .subst hj;simp only[b0k,a8r,au.aA.injEq] at k ⊢;obtain⟨rfl,k⟩:=k;have k:=b1G k;subst k;exact hT
    .simp only[a8v hj];exact h.aM.tr j aO cI (hold j aO cI k hj)
   nd:=λ j aO cI k=>by
    by_cases hj:j=id
    .simp only[a8A hj];exact cX
    .simp only[a8v hj];exact h.aM.nd j aO cI (hold j aO cI k hj)
   pl:=λ j aO cI b k hb=>by
    have fin:(∀ i o,lk i=some o->dt (G.η i)≠some b)->∀ i o,(if i=id then some (au.aA τ xs) else lk i)=some o->dt (if i=id then XP else G.η i)≠some b:=λ hh i o bV e=>by
     obtain⟨hi,e⟩:=hblk i b e;rw[a8v hi] at bV;exact hh i o bV e
    by_cases hj:j=id
    .simp only[a8A hj] at hb;obtain⟨q1,q2,q3,q4,q5⟩:=W3 b hb;exact⟨q1,q2,q3,fin q4⟩
    .simp only[a8v hj] at hb;obtain⟨q1,q2,q3,q4⟩:=h.aM.pl j aO cI b (hold j aO cI k hj) hb;exact⟨q1,q2,q3,fin q4⟩
   ap:=λ j j' Pa iS O9 kG b k k' hb cq=>by
    by_cases hj:j=id
    .by_cases Hc:j'=id
     .rw[hj,Hc]
     .simp only[a8A hj] at hb;simp only[a8v Hc] at cq;exact absurd cq ((W3 b hb).2.2.2.2 j' iS kG (hold j' iS kG k' Hc))
    .by_cases Hc:j'=id
     .simp only[a8v hj] at hb;simp only[a8A Hc] at cq;exact absurd hb ((W3 b cq).2.2.2.2 j Pa O9 (hold j Pa O9 k hj))
     .simp only[a8v hj] at hb;simp only[a8v Hc] at cq;exact h.aM.ap j j' Pa iS O9 kG b (hold j Pa O9 k hj) (hold j' iS kG k' Hc) hb cq }
  root:=λ j v hr ht=>by
   have dh:j≠id:=λ e=>by subst e;rw[a6c] at hr;cases hr
   simp only[a8v dh] at ht ⊢;exact h.root j v hr ht
  fN:=h.fN
  dy:=λ j v hr ht=>by
   by_cases hj:j=id
   .simp only[a8A hj] at ht;cases ht
   .simp only[a8v hj] at ht ⊢;exact h.dy j v hr ht
  eM:=h.eM }
def sw(c:Ctx)(G:Gh)(lk:Nat->Option au)(w:World)(b:Nat):Prop :=
 (c.w0.heap.size<=b\/c.X b)/\¬ G.S b/\b<w.heap.size/\(∀ i o,lk i=some o->dt (G.η i)≠some b)/\∀ j τ xs,lk j=some (.aA τ xs)->b∉G.φ j
structure DC(c:Ctx)(G:Gh)(lk lk':Nat->Option au)(w w':World)(nT:Nat->Value)(mD:Nat->List Nat)(I:Nat->Prop):Prop where
 same:∀ id,¬ I id->lk' id=lk id/\nT id=G.η id/\mD id=G.φ id
 aA:∀ id,I id->∃ τ xs cI v l l',lk id=some (.aA τ xs)/\lk' id=some (.aA τ cI)/\G.η id = .tuple (v::l).toArray/\nT id = .tuple (v::l').toArray/\gG w' (nT id) τ cI (mD id)/\(mD id).Nodup
 a2H:∀ id b,I id->b∈mD id->(∃ di,I di/\b∈G.φ di)\/sw c G lk w' b
 apart:∀ id di b,I id->I di->b∈mD id->b∈mD di->id=di
 heap:∀ b,b<w.heap.size->(∀ id,I id->b∉G.φ id)->w'.heap[b]?=w.heap[b]?
 os:w'.os=w.os
 tape:w'.tape=w.tape
 output:w'.output=w.output
 size:w.heap.size<=w'.heap.size
theorem sw.grow{lk:Nat->Option au}{b:Nat}(h:sw c G lk w b)(hs:w.heap.size<=w'.heap.size):sw c G lk w' b :=
 ⟨h.1,h.2.1,a8B h.2.2.1 hs,h.2.2.2⟩
theorem DC.a4P{nT:Nat->Value}{mD:Nat->List Nat}{I:Nat->Prop}{lk':Nat->Option au}(t:DC c G lk lk' w w' nT mD I)(id:Nat):dX (lk id) (lk' id):=by
 by_cases hi:I id
 .obtain⟨τ,xs,cI,_,_,_,h1,h2,_⟩:=t.aA id hi;rw[h1,h2];exact⟨λ h=>(by cases h),(λ e τ xs h=>by cases h),(λ _=>rfl),λ hh=>by cases hh⟩
 .rw[(t.same id hi).1];exact dX.refl _
theorem C1.dY{nT:Nat->Value}{mD:Nat->List Nat}{I:Nat->Prop}{lk':Nat->Option au}(t:DC c G lk lk' w w' nT mD I)(bQ:∀ b,St c G.S b->w'.heap[b]?=w.heap[b]?){u:AV}{x:Value}(hu:u.HY=false)(h:C1 c G lk w u x):C1 c ⟨G.S,nT,mD⟩ lk' w' u x:=by
 have key:(∀ id,u.refs id=true->¬ I id)->C1 c ⟨G.S,nT,mD⟩ lk' w' u x:=λ hk=>h.mono (λ id aL=>⟨t.a4P id,(t.same id (hk id aL)).2.1⟩) (λ _ h=>h) bQ;have noT:∀ id,cS (lk id)=false->¬ I id:=λ id hn hi=>by
  obtain⟨τ,xs,_,_,_,_,h1,_⟩:=t.aA id hi;rw[h1] at hn;cases hn
 cases u with
 | aA id =>
  obtain⟨h1,l,h2,h3⟩:=h;by_cases hi:I id
  .obtain⟨τ,xs,cI,v,l0,l',k1,k2,k3,k4,_⟩:=t.aA id hi;rw[k3] at h2;simp only[a9T,b1S,a8x] at h2;obtain⟨rfl,_⟩:=h2;exact⟨by rw[k2];rfl,l',k4,h3⟩
  .exact key λ j hj=>by
    have:=a8s (show Nat.beq id j=true from hj);subst this;exact hi
 | dW id i off sz =>
  obtain⟨h1,b,n,cap,l,h2,h3⟩:=h;by_cases hi:I id
  .obtain⟨τ,xs,cI,v,l0,l',k1,k2,k3,k4,_⟩:=t.aA id hi;rw[k3] at h2;simp only[a9T,b1S,a8x] at h2;obtain⟨rfl,_⟩:=h2;exact⟨by rw[k2];rfl,b,n,cap,l',k4,h3⟩
  .exact key λ j hj=>by
    have:=a8s (show Nat.beq id j=true from hj);subst this;exact hi
 | sub id i off sz=>cases hu
 | ptr id off =>
  refine key λ j hj=>?_;have:=a8s (show Nat.beq id j=true from hj);subst this;obtain⟨_,_,_,h3⟩:=h;exact noT id (by match hl:lk id,h3 with|some (.box _),_=>rfl)
 | row id =>
  refine key λ j hj=>?_;have:=a8s (show Nat.beq id j=true from hj);subst this;exact noT id (pw h.2.1)
 | dN id i off =>
  refine key λ j hj=>?_;have:=a8s (show Nat.beq id j=true from hj);subst this;obtain⟨_,_,_,_,_,_,_,h3,_⟩:=h;exact noT id (by rw[h3];rfl)
 | mp id =>
  refine key λ j hj=>?_;have:=a8s (show Nat.beq id j=true from hj);subst this;exact noT id (DZ h.2.1)
 | agg cs=>exact h.elim
 | fO cs=>exact h.elim
 | cM f cs=>exact h.elim
 | _=>exact key λ j hj=>by cases hj
theorem mA:∀ {cs:List AV} {v:AV},AV.mz cs=false->v∈cs->v.HY=false
 | u::r,v,h,hm=>by
  simp only[AV.mz] at h;split at h
  .cases h
  .rename_i hu;rcases a8G.1 hm with rfl|hm
   .exact hu
   .exact mA h hm
theorem CR.dY{nT:Nat->Value}{mD:Nat->List Nat}{I:Nat->Prop}{lk':Nat->Option au}(t:DC c G lk lk' w w' nT mD I)(bQ:∀ b,St c G.S b->w'.heap[b]?=w.heap[b]?){u:AV}{x:Value}(hu:u.HY=false)(h:CR c G lk w u x):CR c ⟨G.S,nT,mD⟩ lk' w' u x:=by
 cases u with
 | aK v=>exact dv.mono (G:=G) (G':=⟨G.S,nT,mD⟩) h (λ _ h=>h) (λ b hb=>bQ b (.inl hb))
 | agg cs =>
  obtain⟨l,h1,h2⟩:=h;exact⟨l,h1,h2.imp λ u y hm hy=>hy.dY t bQ (mA (show AV.mz cs=false from hu) hm)⟩
 | _=>exact C1.TT (C1.dY t bQ hu h)
theorem VR.dY{nT:Nat->Value}{mD:Nat->List Nat}{I:Nat->Prop}{lk':Nat->Option au}(t:DC c G lk lk' w w' nT mD I)(bQ:∀ b,St c G.S b->w'.heap[b]?=w.heap[b]?){u:AV}{x:Value}(hu:u.HY=false)(h:VR c G lk w u x):VR c ⟨G.S,nT,mD⟩ lk' w' u x:=by
 cases u with
 | aK v=>exact dv.mono (G:=G) (G':=⟨G.S,nT,mD⟩) h (λ _ h=>h) (λ b hb=>bQ b (.inl hb))
 | agg cs =>
  obtain⟨l,h1,h2⟩:=h;exact⟨l,h1,h2.imp λ u y hm hy=>hy.dY t bQ (mA (show AV.mz cs=false from hu) hm)⟩
 | fO vs =>
  obtain⟨l,h1,h2⟩:=h;refine⟨l,h1,h2.imp λ u y hm hy=>?_⟩;have ON:=mA (show AV.mz vs=false from hu) hm;cases u with
  | any=>trivial
  | aK v=>exact dv.mono (G:=G) (G':=⟨G.S,nT,mD⟩) hy (λ _ h=>h) (λ b hb=>bQ b (.inl hb))
  | aA i=>exact C1.dY (u := .aA i) t bQ rfl hy
  | cO v=>exact C1.dY (u := .cO v) t bQ rfl hy
  | agg cs =>
   obtain⟨l,h1,h2⟩:=hy;exact⟨l,h1,h2.imp λ u y hm hy=>hy.dY t bQ (mA (show AV.mz cs=false from ON) hm)⟩
  | _=>exact hy.elim
 | any=>trivial
 | dG=>exact h
 | nil=>exact (C1.dY (u := .nil) t bQ hu h).eS
 | cO u=>exact (C1.dY (u := .cO u) t bQ hu h).eS
 | ptr i o=>exact (C1.dY (u := .ptr i o) t bQ hu h).eS
 | row i=>exact (C1.dY (u := .row i) t bQ hu h).eS
 | dN i k o=>exact (C1.dY (u := .dN i k o) t bQ hu h).eS
 | fn f=>exact (C1.dY (u := .fn f) t bQ hu h).eS
 | aA i=>exact (C1.dY (u := .aA i) t bQ hu h).eS
 | sub i k o z=>cases hu
 | mp i=>exact (C1.dY (u := .mp i) t bQ hu h).eS
 | dW i k o z=>exact (C1.dY (u := .dW i k o z) t bQ hu h).eS
 | fV v=>exact (C1.dY (u := .fV v) t bQ hu h).eS
 | cM f cs =>
  obtain⟨l,h1,h2⟩:=h;exact⟨l,h1,h2.imp λ u y hm hy=>hy.dY t bQ (mA (show AV.mz cs=false from hu) hm)⟩
theorem aV.dY(h:aV c G sl n lk a w){nT:Nat->Value}{mD:Nat->List Nat}{I:Nat->Prop}{lk':Nat->Option au}(t:DC c G lk lk' w w' nT mD I)(hs:∀ i,(sl i).HY=false)(QK:∀ id cs,lk id=some (.box cs)->AV.mz cs=false) :
  aV c ⟨G.S,nT,mD⟩ sl n lk' a w':=by
 have pl:∀ id b,I id->b∈G.φ id->(c.w0.heap.size<=b\/c.X b)/\¬ G.S b/\b<w.heap.size/\∀ i o,lk i=some o->dt (G.η i)≠some b:=λ id b hi hb=>by
  obtain⟨τ,xs,_,_,_,_,h1,_⟩:=t.aA id hi;exact h.aM.pl id τ xs b h1 hb
 have V1:∀ b,b<w.heap.size->((c.w0.heap.size<=b\/c.X b)->False)->w'.heap[b]?=w.heap[b]?:=λ b hb hn=>t.heap b hb λ id hi fW=>hn (pl id b hi fW).1;have bQ:∀ b,St c G.S b->w'.heap[b]?=w.heap[b]?:=λ b hb=>by
  rcases hb with hb|hb
  .exact t.heap b (h.dH b hb) λ id hi fW=>(pl id b hi fW).2.1 hb
  .exact V1 b (a8B hb.1 h.aE.size) λ hn=>hn.elim (λ q=>by omega) hb.2.1
 have hblk:∀ id o b,lk id=some o->dt (G.η id)=some b->w'.heap[b]?=w.heap[b]?:=λ id o b ho hb =>
  t.heap b (h.place id o b ho hb).2.2 λ j hj fW=>(pl j b hj fW).2.2.2 id o ho hb
 have eP:∀ id b,dt (nT id)=some b->¬ I id/\dt (G.η id)=some b:=λ id b hb=>by
  by_cases hi:I id
  .obtain⟨_,_,_,_,_,_,_,_,_,h4,_⟩:=t.aA id hi;rw[h4] at hb;cases hb
  .rw[(t.same id hi).2.1] at hb;exact⟨hi,hb⟩
 have nP:∀ id τ xs b,lk' id=some (.aA τ xs)->b∈mD id->(∃ di aO cI,lk di=some (.aA aO cI)/\b∈G.φ di/\(¬ I id->di=id)/\(I id->I di))\/(I id/\sw c G lk w' b):=λ id τ xs b aL hb=>by
  by_cases hi:I id
  .rcases t.a2H id b hi hb with ⟨di,mn,cq⟩|QP
   .obtain⟨aO,cI,_,_,_,_,h1,_⟩:=t.aA di mn;exact .inl ⟨di,aO,cI,h1,cq,λ hn=>absurd hi hn,λ _=>mn⟩
   .exact .inr ⟨hi,QP⟩
  .obtain⟨h1,h2,h3⟩:=t.same id hi;rw[h1] at aL;rw[h3] at hb;exact .inl ⟨id,τ,xs,aL,hb,λ _=>rfl,λ mn=>absurd mn hi⟩
 exact {
  defers:=h.defers,size:=h.size
  aE:=h.aE.trans (Y:=λ b=>c.w0.heap.size<=b\/c.X b) ⟨t.os,t.tape,t.output,t.size,λ b hb hn=>V1 b hb hn⟩ λ i hi hy=>hy.elim (λ q=>by omega) id
  jN:=h.jN,ew:=h.ew,sX:=h.sX
  dH:=λ b hb=>a8B (h.dH b hb) t.size
  aw:=λ i=>(h.aw i).dY t bQ (hs i)
  aC:=λ id o aL=>by
   by_cases hi:I id
   .obtain⟨τ,xs,cI,_,_,_,_,h2,_⟩:=t.aA id hi;rw[h2] at aL;simp only[a8r] at aL;subst aL;trivial
   .obtain⟨h1,h2,h3⟩:=t.same id hi;rw[h1] at aL;have ho:=h.aC id o aL;cases o with
    | box cs =>
     obtain⟨b,l,ty,k1,k2,k3⟩:=ho;refine⟨b,l,ty,h2.trans k1,?_,k3.imp λ u y hm hy=>hy.dY t bQ (mA (QK id cs aL) hm)⟩;rw[hblk id _ b aL (by rw[k1];rfl)];exact k2
    | row e τ xs =>
     obtain⟨l,k1,k2,k3⟩:=ho;refine⟨l,?_,cP.aE (λ _ h=>h) (λ b hb=>bQ b (.inl hb)) _ k2,k3⟩;rw[show (⟨G.S,nT,mD⟩:Gh).η id=G.η id from h2];exact D5 k1 λ b hb=>hblk id _ b aL hb
    | aA τ xs=>trivial
    | map m =>
     obtain⟨b,es,clock,k1,k2,k3⟩:=ho;exact⟨b,es,clock,h2.trans k1,(hblk id _ b aL (by rw[k1];rfl)).trans k2,k3⟩
  place:=λ id o b aL hb=>by
   obtain⟨hi,hb⟩:=eP id b hb;rw[(t.same id hi).1] at aL;obtain⟨q1,q2,q3⟩:=h.place id o b aL hb;exact⟨q1,q2,a8B q3 t.size⟩
  apart:=λ id di o o' b aL Bp hb cq=>by
   obtain⟨hi,hb⟩:=eP id b hb;obtain⟨mn,cq⟩:=eP di b cq;rw[(t.same id hi).1] at aL;rw[(t.same di mn).1] at Bp;exact h.apart id di o o' b aL Bp hb cq
  aM:={
   tr:=λ id τ xs aL=>by
    by_cases hi:I id
    .obtain⟨τ0,xs0,cI,v,l,l',h1,h2,h3,h4,h5,h6⟩:=t.aA id hi;rw[h2] at aL;simp only[a8r,au.aA.injEq] at aL;obtain⟨rfl,aL⟩:=aL;have aL:=b1G aL;subst aL;exact h5
    .obtain⟨h1,h2,h3⟩:=t.same id hi;rw[h1] at aL;rw[show (⟨G.S,nT,mD⟩:Gh).η id=G.η id from h2,show (⟨G.S,nT,mD⟩:Gh).φ id=G.φ id from h3];exact (h.aM.tr id τ xs aL).aE λ b hb=>t.heap b (h.aM.pl id τ xs b aL hb).2.2.1 λ j hj fW=>by
      obtain⟨aO,cI,_,_,_,_,k1,_⟩:=t.aA j hj;have:=h.aM.ap id j τ aO xs cI b aL k1 hb fW;subst this;exact hi hj
   nd:=λ id τ xs aL=>by
    by_cases hi:I id
    .obtain⟨_,_,_,_,_,_,_,_,_,_,_,h6⟩:=t.aA id hi;exact h6
    .obtain⟨h1,h2,h3⟩:=t.same id hi;rw[h1] at aL;rw[show (⟨G.S,nT,mD⟩:Gh).φ id=G.φ id from h3];exact h.aM.nd id τ xs aL
   pl:=λ id τ xs b aL hb=>by
    have hq:(c.w0.heap.size<=b\/c.X b)/\¬ G.S b/\b<w'.heap.size/\∀ i o,lk i=some o->dt (G.η i)≠some b:=by
     rcases nP id τ xs b aL hb with ⟨di,aO,cI,k1,k2,_⟩|⟨_,f1,f2,f3,f4,_⟩
     .obtain⟨f1,f2,f3,f4⟩:=h.aM.pl di aO cI b k1 k2;exact⟨f1,f2,a8B f3 t.size,f4⟩
     .exact⟨f1,f2,f3,f4⟩
    obtain⟨q1,q2,q3,q4⟩:=hq;refine⟨q1,q2,q3,λ i o bV tA=>?_⟩;obtain⟨hi,tA⟩:=eP i b tA;rw[(t.same i hi).1] at bV;exact q4 i o bV tA
   ap:=λ id di τ aO xs cI b aL Bp hb cq=>by
    by_cases hi:I id
    .by_cases mn:I di
     .exact t.apart id di b hi mn hb cq
     .rcases nP di aO cI b Bp cq with ⟨j',iS,kG,m1,m2,m3,_⟩|⟨q,_⟩
      .rcases nP id τ xs b aL hb with ⟨j,Pa,O9,k1,k2,_,k4⟩|⟨_,QP⟩
       .have:=h.aM.ap j j' _ _ _ _ b k1 m1 k2 m2;have e:=m3 mn;subst e this;exact absurd (k4 hi) mn
       .exact absurd m2 (QP.2.2.2.2 j' iS kG m1)
      .exact absurd q mn
    .by_cases mn:I di
     .rcases nP id τ xs b aL hb with ⟨j,Pa,O9,k1,k2,k3,_⟩|⟨q,_⟩
      .rcases nP di aO cI b Bp cq with ⟨j',iS,kG,m1,m2,_,m4⟩|⟨_,QP⟩
       .have:=h.aM.ap j j' _ _ _ _ b k1 m1 k2 m2;have e:=k3 hi;subst e this;exact absurd (m4 mn) hi
       .exact absurd k2 (QP.2.2.2.2 j Pa O9 k1)
      .exact absurd q hi
     .rcases nP id τ xs b aL hb with ⟨j,Pa,O9,k1,k2,k3,_⟩|⟨q,_⟩
      .rcases nP di aO cI b Bp cq with ⟨j',iS,kG,m1,m2,m3,_⟩|⟨q,_⟩
       .have:=h.aM.ap j j' _ _ _ _ b k1 m1 k2 m2;exact (k3 hi).symm.trans (this.trans (m3 mn))
       .exact absurd q mn
      .exact absurd q hi }
  root:=λ id v hr ht=>by
   by_cases hi:I id
   .obtain⟨τ,xs,cI,v0,l,l',k1,k2,k3,k4,_⟩:=t.aA id hi;obtain⟨l2,h2⟩:=h.root id v hr (by rw[k1];rfl);rw[k3] at h2;simp only[a9T,b1S,a8x] at h2;obtain⟨rfl,_⟩:=h2;exact⟨l',k4⟩
   .obtain⟨h1,h2,_⟩:=t.same id hi;rw[h1] at ht;rw[show (⟨G.S,nT,mD⟩:Gh).η id=G.η id from h2];exact h.root id v hr ht
  fN:=h.fN
  dy:=λ id v hr ht=>by
   by_cases hi:I id
   .obtain⟨τ,xs,cI,v0,l,l',k1,k2,k3,k4,_⟩:=t.aA id hi;rw[k2] at ht;cases ht
   .obtain⟨h1,h2,_⟩:=t.same id hi;rw[h1] at ht;rw[show (⟨G.S,nT,mD⟩:Gh).η id=G.η id from h2];exact h.dy id v hr ht
  eM:=h.eM }
theorem aV.NO(h:aV c G sl n lk a w){d:Nat}(hd:lk d=none):(∀ i,(sl i).refs d=false)/\∀ i o,lk i=some o->o.refs d=false:=by
 have c1:∀ (v:AV) (x:Value),C1 c G lk w v x->v.refs d=true->False:=λ v x hv hr=>by
  have gP:∀ i,Nat.beq i d=true->gm (lk i)=false/\isRow (lk i)=false/\cS (lk i)=false/\∀ e τ xs,lk i≠some (.row e τ xs):=λ i hi=>by
   have:=a8s hi;subst this;rw[hd];exact⟨rfl,rfl,rfl,λ _ _ _=>by simp⟩
  cases v with
  | ptr i o=>obtain⟨_,_,_,h3⟩:=hv;rw[(gP i hr).1] at h3;cases h3
  | row i=>obtain⟨_,h3,_⟩:=hv;rw[(gP i hr).2.1] at h3;cases h3
  | dN i k o=>obtain⟨_,_,_,_,_,_,_,h3,_⟩:=hv;exact (gP i hr).2.2.2 _ _ _ h3
  | aA i=>have h3:=hv.1;rw[(gP i hr).2.2.1] at h3;cases h3
  | sub i k o z=>have h3:=hv.1;rw[(gP i hr).2.2.1] at h3;cases h3
  | dW i k o z=>have h3:=hv.1;rw[(gP i hr).2.2.1] at h3;cases h3
  | mp i =>
   have h3:=hv.2.1;have:=a8s (show Nat.beq i d=true from hr);subst this;rw[hd] at h3;cases h3
  | agg cs=>exact hv
  | fO cs=>exact hv
  | cM f cs=>exact hv
  | _=>cases hr
 have cL:∀ (cs:List AV) (l:List Value),aI (C1 c G lk w) cs l->AV.eX d cs=true->False:=by
  intro cs;induction cs with
  | nil=>intro l _ hr;cases hr
  | cons v r ih =>
   intro l hl hr;match l,hl with
   | x::l,hl =>
    simp only[AV.eX] at hr;split at hr
    .rename_i hv;exact c1 v x hl.1 hv
    .exact ih l hl.2 hr
 refine⟨λ i=>?_,λ i o ho=>?_⟩
 .cases hr:(
        sl i).refs d with
  | false=>rfl
  | true =>
   have hv:=h.aw i;revert hv hr;generalize a.tmps.getD i undef=x;cases sl i with
   | aK u=>intro hr;cases hr
   | agg cs =>
    intro hr hv;obtain⟨l,_,hl⟩:=hv;exact (cL cs l hl hr).elim
   | fO vs =>
    intro hr hv;obtain⟨l,_,hl⟩:=hv;have:∀ (
         vs:List AV) (l:List Value),aI (TR c G lk w) vs l->AV.eX d vs=true->False:=by
     intro vs;induction vs with
     | nil=>intro l _ hr;cases hr
     | cons v r ih =>
      intro l hl hr;match l,hl with
      | x::l,hl =>
       simp only[AV.eX] at hr;split at hr
       .rename_i hv;have h1:=hl.1;cases v with
        | aA i=>exact c1 (.aA i) x h1 hv
        | agg cs =>
         obtain⟨l',_,nm⟩:=h1;exact cL cs l' nm hv
        | aK u=>cases hv
        | cO u=>cases hv
        | any=>cases hv
        | _=>exact h1
       .exact ih l hl.2 hr
    exact (this vs l hl hr).elim
   | cM f vs =>
    intro hr hv;obtain⟨l,_,hl⟩:=hv;have:∀ (vs:List AV) (l:List Value),aI (CR c G lk w) vs l->AV.eX d vs=true->False:=by
     intro vs;induction vs with
     | nil=>intro l _ hr;cases hr
     | cons v r ih =>
      intro l hl hr;match l,hl with
      | x::l,hl =>
       simp only[AV.eX] at hr;split at hr
       .rename_i hv;rcases hl.1.inv with ⟨u,rfl,_⟩|⟨cs,l',rfl,_,nm⟩|h1
        .cases hv
        .exact cL cs l' nm hv
        .exact c1 _ x h1 hv
       .exact ih l hl.2 hr
    exact (this vs l hl hr).elim
   | any=>intro hr;cases hr
   | dG=>intro hr;cases hr
   | nil=>intro hr;cases hr
   | cO u=>intro hr;cases hr
   | fn f=>intro hr;cases hr
   | fV v=>intro hr;cases hr
   | ptr i o=>intro hr hv;exact (c1 (.ptr i o) x hv hr).elim
   | row i=>intro hr hv;exact (c1 (.row i) x hv hr).elim
   | dN i k o=>intro hr hv;exact (c1 (.dN i k o) x hv hr).elim
   | aA i=>intro hr hv;exact (c1 (.aA i) x hv hr).elim
   | sub i k o z=>intro hr hv;exact (c1 (.sub i k o z) x hv hr).elim
   | dW i k o z=>intro hr hv;exact (c1 (.dW i k o z) x hv hr).elim
   | mp i=>intro hr hv;exact (c1 (.mp i) x hv hr).elim
 .cases hr:o.refs d with
  | false=>rfl
  | true =>
   cases o with
   | row e τ xs=>cases hr
   | aA τ xs=>cases hr
   | map m=>cases hr
   | box cs =>
    obtain⟨b,l,t,_,_,k3⟩:=h.aC i _ ho;exact (cL cs l k3 hr).elim
structure Ext(G:Gh)(lk:Nat->Option au)(G':Gh)(lk':Nat->Option au):Prop where
 S:G'.S=G.S
 Xm:∀ i o,lk i=some o->lk' i=some o/\G'.η i=G.η i/\G'.φ i=G.φ i
theorem Ext.refl(G:Gh)(lk:Nat->Option au):Ext G lk G lk:=⟨rfl,λ _ _ h=>⟨h,rfl,rfl⟩⟩
theorem Ext.trans{G1 G2 G3:Gh}{l1 l2 l3:Nat->Option au}(h:Ext G1 l1 G2 l2)(k:Ext G2 l2 G3 l3):Ext G1 l1 G3 l3 :=
 ⟨k.S.trans h.S,λ i o ho=>by
  obtain⟨a1,a2,a3⟩:=h.Xm i o ho;obtain⟨b1,b2,b3⟩:=k.Xm i o a1;exact⟨b1,b2.trans a2,b3.trans a3⟩⟩
theorem C1.ext{G':Gh}{lk':Nat->Option au}(e:Ext G lk G' lk'){v:AV}{x:Value}(h:C1 c G lk w v x):C1 c G' lk' w v x:=by
 refine h.mono (λ id aL=>?_) (λ b hb=>by rw[e.S];exact hb) (λ _ _=>rfl);have dh:lk id≠none:=λ hn=>by
  cases v with
  | ptr i o=>have:=a8s (show Nat.beq i id=true from aL);subst this;obtain⟨_,_,_,h3⟩:=h;rw[hn] at h3;cases h3
  | row i=>have:=a8s (show Nat.beq i id=true from aL);subst this;obtain⟨_,h3,_⟩:=h;rw[hn] at h3;cases h3
  | dN i k o=>have:=a8s (show Nat.beq i id=true from aL);subst this;obtain⟨_,_,_,_,_,_,_,h3,_⟩:=h;rw[hn] at h3;cases h3
  | aA i=>have:=a8s (show Nat.beq i id=true from aL);subst this;have h3:=h.1;rw[hn] at h3;cases h3
  | sub i k o z=>have:=a8s (show Nat.beq i id=true from aL);subst this;have h3:=h.1;rw[hn] at h3;cases h3
  | dW i k o z=>have:=a8s (show Nat.beq i id=true from aL);subst this;have h3:=h.1;rw[hn] at h3;cases h3
  | mp i=>have:=a8s (show Nat.beq i id=true from aL);subst this;have h3:=h.2.1;rw[hn] at h3;cases h3
  | agg cs=>exact h
  | fO cs=>exact h
  | cM f cs=>exact h
  | _=>cases aL
 match hl:lk id,dh with
 | some o,_ =>
  obtain⟨h1,h2,_⟩:=e.Xm id o hl;rw[h1];exact⟨dX.refl _,h2⟩
def Fr(c:Ctx)(G:Gh)(lk:Nat->Option au)(w:World)(fp:List Nat):Prop :=
 ∀ b∈fp,(c.w0.heap.size<=b\/c.X b)/\¬ G.S b/\b<w.heap.size/\(∀ i o,lk i=some o->dt (G.η i)≠some b)/\∀ j τ xs,lk j=some (.aA τ xs)->b∉G.φ j
def fZ(news:List (Nat×au))(lk:Nat->Option au)(i:Nat):Option au:=match af news i with
 | some o=>some o
 | none=>lk i
theorem ZL(lk:Nat->Option au):fZ [] lk=lk:=rfl
theorem Xj(id:Nat)(o:au)(r:List (Nat×au))(lk:Nat->Option au)(hr:af r id=none):fZ r (λ i=>if i=id then some o else lk i)=fZ ((id,o)::r) lk:=by
 funext i;unfold fZ;rw[de];by_cases hi:i=id
 .subst hi;rw[hr];simp
 .simp[hi]
theorem Kl:∀ (r r':List (Nat×au)) (lk:Nat->Option au),fZ (r++r') lk=fZ r (fZ r' lk)
 | [],r',lk=>rfl
 | (id,o)::r,r',lk=>by
  funext i;have:=congrFun (Kl r r' lk) i;unfold fZ at this ⊢;rw[List.cons_append,de,de];by_cases hi:i=id
  .simp[hi]
  .simpa [hi] using this
theorem gG.Z5{τ:Ty}{xs:List τ.den}{x:Value}{fp:List Nat}(h:Ow w (.slice τ.size (xs.map τ.aD)) [x] fp):∃ l,gG w (.tuple (x::l).toArray) τ xs fp/\∃ a n m,x = .slice a n m:=by
 obtain⟨a',cap,h1,h2,h3,h4,h5⟩:=h;simp only[a8x,a8T,a8W] at h1 h2 h4;subst h1;rcases h5 with ⟨hx,ha,hf⟩|⟨b,f,l,t,ha,hf,k1,k2⟩
 .refine⟨[],⟨_,[],a',cap,rfl,rfl,h2,h3,h4, .inl ⟨?_,ha,hf⟩⟩,_,_,_,rfl⟩;simpa using hx
 .exact⟨l,⟨_,l,a',cap,rfl,rfl,h2,h3,h4, .inr ⟨b,f,t,ha,hf,k1,k2⟩⟩,_,_,_,rfl⟩
theorem Ow.a4I{η:Value}{τ:Ty}{xs:List τ.den}{fp:List Nat}(h:gG w η τ xs fp){x:Value}{l:List Value}(hx:η = .tuple (x::l).toArray):Ow w (.slice τ.size (xs.map τ.aD)) [x] fp:=by
 obtain⟨v,l',a',cap,h1,h2,h3,h4,h5,h6⟩:=h;rw[hx] at h1;simp only[Value.tuple.injEq,List.toArray_inj,List.cons.injEq] at h1;obtain⟨rfl,rfl⟩:=h1;refine⟨a',cap,by simp[h2],by simpa using h3,h4,by simpa using h5,?_⟩;rcases h6 with ⟨rfl,q1,q2⟩|⟨b,f,t,q1,q2,q3,q4⟩
 .exact .inl ⟨rfl,q1,q2⟩
 .exact .inr ⟨b,f,l,t,q1,q2,q3,q4⟩
theorem fP:∀ {l:List (Nat×au)} {id:Nat} {o:au},af l id=some o->(id,o)∈l
 | (k,p)::r,id,o,h=>by
  simp only[af] at h;split at h
  .rename_i hk;have hk:=a8s hk;simp only[a8r] at h;subst hk h;simp
  .exact a9p _ (fP h)
theorem aV.X7(h:aV c G sl n lk a w){u:TV}(hu:u.τ.agg=false){x:Value}{fp:List Nat}{id:Nat}(hO:Ow w u.aD [x] fp)(cX:fp.Nodup)(hF:Fr c G lk w fp)(aL:∀ p∈eR id u,lk p.1=none)(hR:c.R id=none) :
  ∃ G',aV c G' sl n (fZ (eR id u) lk) a w/\Ext G lk G' (fZ (eR id u) lk)/\C1 c G' (fZ (eR id u) lk) w (lA id u) x /\
   ∀ fq,Fr c G lk w fq->(∀ b∈fq,b∉fp)->Fr c G' (fZ (eR id u) lk) w fq:=by
 have rN:(eR id u=[]/\lA id u = .aK u)->∃ G',aV c G' sl n (fZ (eR id u) lk) a w/\Ext G lk G' (fZ (eR id u) lk)/\C1 c G' (fZ (eR id u) lk) w (lA id u) x /\
   ∀ fq,Fr c G lk w fq->(∀ b∈fq,b∉fp)->Fr c G' (fZ (eR id u) lk) w fq:=by
  rintro⟨e1,e2⟩;rw[e1,e2];exact⟨G,h,Ext.refl _ _,⟨hu,hO.rd (S:=λ b=>b∈fp) _ (λ _ h=>h) |> λ hr=>by
   obtain⟨τ,y⟩:=u;cases τ with
   | slice t=>simp[eR] at e1
   | mv t=>simp[lA] at e2
   | ptr=>exact hr
   | st s=>cases hu
   | int k=>exact hr
   | bool=>exact hr
   | str=>exact hr⟩,λ fq hq _=>hq⟩
 obtain⟨τ,y⟩:=u;cases τ with
 | mv t=>exact⟨G,h,Ext.refl _ _,ae,λ fq hq _=>hq⟩
 | slice t =>
  obtain⟨l,hT,Aw⟩:=gG.Z5 (τ:=t) (xs:=y) hO;have hn:lk id=none:=aL (id, .aA t y) (by simp[eR]);obtain⟨OL,uy⟩:=h.NO hn;have hI:=h.NK id t y _ fp hn OL uy hR hT cX hF;have bO:fZ (eR id ⟨.slice t,y⟩) lk=λ i=>if i=id then some (.aA t y) else lk i:=by
   rw[<-ZL (λ i=>if i=id then some (au.aA t y) else lk i),Xj id _ [] lk rfl];rfl
  rw[bO];refine⟨_,hI,⟨rfl,λ i o ho=>?_⟩,⟨by simp[cS],l,by simp,Aw⟩,λ fq hq uX b hb=>?_⟩
  .have hi:i≠id:=λ e=>by subst e;rw[hn] at ho;cases ho
   simp[hi,ho]
  .obtain⟨q1,q2,q3,q4,q5⟩:=hq b hb;refine⟨q1,q2,q3,λ i o bV e=>?_,λ j τ xs hj=>?_⟩
   .by_cases hi:i=id
    .simp only[a8A hi] at e;cases e
    .simp only[a8v hi] at bV e;exact q4 i o bV e
   .by_cases hi:j=id
    .simp only[a8A hi];exact uX b hb
    .simp only[a8v hi] at hj ⊢;exact q5 j τ xs hj
 | st s=>cases hu
 | ptr=>exact rN ⟨rfl,rfl⟩
 | int k=>exact rN ⟨rfl,rfl⟩
 | bool=>exact rN ⟨rfl,rfl⟩
 | str=>exact rN ⟨rfl,rfl⟩
theorem Kn{id:Nat}{u:TV}{p:Nat×au}(h:p∈eR id u):p.1=id:=by
 obtain⟨τ,y⟩:=u;cases τ<;>simp[eR] at h;rw[h]
theorem Nx{r:List (Nat×au)}{i:Nat}(h:∀ p∈r,p.1≠i):af r i=none:=by
 induction r with
 | nil=>rfl
 | cons p r ih =>
  obtain⟨k,o⟩:=p;rw[de,a8v (λ e=>h (k,o) (by simp) e.symm)];exact ih λ q hq=>h q (by simp[hq])
theorem aV.Cn:∀ {us:List TV} {cs:List Value} {fp:List Nat} {id:Nat} {G:Gh} {lk:Nat->Option au},aV c G sl n lk a w->(∀ u∈us,u.τ.agg=false)->cT w (us.map TV.aD) cs fp->fp.Nodup->Fr c G lk w fp ->
  (∀ p∈bR id us,lk p.1=none)->((bR id us).map (·.1)).Nodup->(∀ j,id<=j->c.R j=none) ->
  ∃ G' lk',(∀ i,lk' i=fZ (bR id us) lk i)/\aV c G' sl n lk' a w/\Ext G lk G' lk'/\aI (C1 c G' lk' w) (dx id us) cs/\∀ fq,Fr c G lk w fq->(∀ b∈fq,b∉fp)->Fr c G' lk' w fq
 | [],cs,fp,id,G,lk,h,_,hO,_,_,_,_,_=>by
  obtain⟨rfl,rfl⟩:=hO;exact⟨G,lk,λ _=>rfl,h,Ext.refl _ _,ae,λ fq hq _=>hq⟩
 | u::us,cs,fp,id,G,lk,h,hu,hO,cX,hF,aL,nU,hR=>by
  obtain⟨v,r,f1,f2,rfl,rfl,h1,h2⟩:=hO;rw[a8M] at cX;obtain⟨ZZ,Z0,Z1⟩:=cX;simp only[bR,a9F] at nU;rw[a8M] at nU;obtain⟨d1,d2,d3⟩:=nU;obtain⟨G1,i1,e1,c1,Ut⟩:=h.X7 (id:=id) (hu u (by simp)) h1 ZZ (λ b hb=>hF b (by simp[hb])) (λ p hp=>aL p (by simp[bR,hp])) (hR id (a8C _));have dh:∀ p∈bR (id+1) us,af (eR id u) p.1=none:=λ p hp=>Nx λ q hq e=>d3 q.1 (a8w.2 ⟨q,hq,rfl⟩) p.1 (a8w.2 ⟨p,hp,rfl⟩) e;obtain⟨G2,lk2,k1,k2,k3,k4,k5⟩:=aV.Cn (us:=us) (cs:=r) (fp:=f2) (id:=id+1) i1 (λ u ON=>hu u (by simp[ON])) h2 Z0
   (Ut f2 (λ b hb=>hF b (by simp[hb])) (λ b hb cq=>Z1 b cq b hb rfl)) (λ p hp=>by unfold fZ;rw[dh p hp];exact aL p (by simp[bR,hp])) d2 (λ j hj=>hR j (by omega))
  refine⟨G2,lk2,λ i=>?_,k2,e1.trans k3,⟨c1.ext k3,k4⟩,λ fq hq uX=>k5 fq (Ut fq hq λ b hb cq=>uX b hb (by simp[cq])) λ b hb cq=>uX b hb (by simp[cq])⟩;rw[k1 i];simp only[bR];unfold fZ;have a6e:∀ (r r':List (Nat×au)) (j:Nat),af (r++r') j=match af r j with|some o=>some o|none=>af r' j:=by
   intro r r' j;induction r with
   | nil=>rfl
   | cons p r ih =>
    obtain⟨k,o⟩:=p;rw[a9i,de,de];by_cases hj:j=k
    .simp[hj]
    .simpa [hj] using ih
  rw[a6e];cases hx:af (bR (id+1) us) i with
  | none=>simp only[];cases af (eR id u) i<;>rfl
  | some o =>
   simp only[];have hm:=fP hx;rw[dh _ hm]
theorem L0(s:aJ)(y:s.den):∀ u∈s.cells y,u.τ.agg=false:=λ u hu=>by
 have:=aJ.mJ s y u hu;obtain⟨aO,z'⟩:=u;cases aO with
 | st s'=>simp[TV.aD,Ty.aD,aJ.bT,D.leaf] at this
 | _=>rfl
theorem TR.ext{G':Gh}{lk':Nat->Option au}(e:Ext G lk G' lk'){v:AV}{x:Value}(h:TR c G lk w v x):TR c G' lk' w v x:=by
 cases v with
 | any=>trivial
 | aK v=>exact dv.mono (G:=G) (G':=G') h (λ b hb=>by rw[e.S];exact hb) (λ _ _=>rfl)
 | aA i=>exact C1.ext (c:=c) (w:=w) (v := .aA i) e h
 | cO v=>exact C1.ext (c:=c) (w:=w) (v := .cO v) e h
 | agg cs =>
  obtain⟨l,h1,h2⟩:=h;exact⟨l,h1,h2.imp λ u y _ hy=>hy.ext e⟩
 | _=>exact h.elim
theorem TR.eS{v:AV}{x:Value}(h:TR c G lk w v x):VR c G lk w v x:=by
 cases v with
 | any=>trivial
 | aK v=>exact h
 | aA i=>exact h
 | cO v=>exact h
 | agg cs=>exact h
 | _=>exact h.elim
theorem C1.a7i{id:Nat}{u:TV}{x:Value}(h:C1 c G lk w (lA id u) x)(hu:u.τ.agg=false):TR c G lk w (lA id u) x:=by
 obtain⟨τ,y⟩:=u;cases τ with
 | slice t=>exact h
 | mv t=>exact h
 | ptr=>exact h.2
 | st s=>cases hu
 | int k=>exact h.2
 | bool=>exact h.2
 | str=>exact h.2
theorem aV.Qc{v:TV}{x:Value}{fp:List Nat}{id:Nat}{G:Gh}{lk:Nat->Option au}(h:aV c G sl n lk a w)(hO:Ah w v x fp)(cX:fp.Nodup)(hF:Fr c G lk w fp)
  (aL:∀ p∈bR id v.cells,lk p.1=none) (nU:((bR id v.cells).map (·.1)).Nodup) (hR:∀ j,id<=j->c.R j=none) :
  ∃ G' lk',(∀ i,lk' i=fZ (bR id v.cells) lk i)/\aV c G' sl n lk' a w/\Ext G lk G' lk'/\TR c G' lk' w (gE id v) x/\∀ fq,Fr c G lk w fq->(∀ b∈fq,b∉fp)->Fr c G' lk' w fq:=by
 have one:v.τ.agg=false->v.cells=[v]->gE id v=lA id v->Ow w v.aD [x] fp->∃ G' lk',(∀ i,lk' i=fZ (bR id v.cells) lk i)/\aV c G' sl n lk' a w/\Ext G lk G' lk'/\TR c G' lk' w (gE id v) x/\∀ fq,Fr c G lk w fq->(∀ b∈fq,b∉fp)->Fr c G' lk' w fq:=by
  intro hv hc UQ hO;rw[hc] at aL nU;obtain⟨G',lk',k1,k2,k3,k4,k5⟩:=h.Cn (us:=[v]) (cs:=[x]) (fp:=fp) (by simpa using hv) ⟨x,[],fp,[],rfl,by simp,hO,rfl,rfl⟩ cX hF aL nU hR;rw[hc,UQ];exact⟨G',lk',k1,k2,k3,C1.a7i k4.1 hv,k5⟩
 obtain⟨τ,y⟩:=v;cases τ with
 | st s =>
  obtain⟨cs,rfl,hO⟩:=hO;rw[aJ.bT] at hO;obtain⟨G',lk',k1,k2,k3,k4,k5⟩:=h.Cn (us:=s.cells y) (cs:=cs) (fp:=fp) (L0 s y) hO cX hF aL nU hR;exact⟨G',lk',k1,k2,k3,⟨cs,rfl,k4⟩,k5⟩
 | slice t=>exact one rfl rfl rfl hO
 | mv t=>exact one rfl rfl rfl hO
 | ptr=>exact one rfl rfl rfl hO
 | int k=>exact one rfl rfl rfl hO
 | bool=>exact one rfl rfl rfl hO
 | str=>exact one rfl rfl rfl hO
theorem Xi{r r':List (Nat×au)}(hd:∀ p∈r',af r p.1=none)(lk:Nat->Option au)(i:Nat):fZ r' (fZ r lk) i=fZ (r++r') lk i:=by
 rw[Kl];unfold fZ;cases hx:af r' i with
 | none=>rfl
 | some o =>
  have:=hd _ (fP hx);simp only[] at this ⊢;rw[this]
theorem aV.FT:∀ {vs:List TV} {xs:List Value} {fp:List Nat} {id:Nat} {G:Gh} {lk:Nat->Option au},aV c G sl n lk a w->FP w vs xs fp->fp.Nodup->Fr c G lk w fp ->
  (∀ p∈aU id vs,lk p.1=none)->((aU id vs).map (·.1)).Nodup->(∀ j,id<=j->c.R j=none) ->
  ∃ G' lk',(∀ i,lk' i=fZ (aU id vs) lk i)/\aV c G' sl n lk' a w/\Ext G lk G' lk'/\aI (TR c G' lk' w) (HH id vs) xs/\∀ fq,Fr c G lk w fq->(∀ b∈fq,b∉fp)->Fr c G' lk' w fq
 | [],[],fp,id,G,lk,h,_,_,_,_,_,_=>⟨G,lk,λ _=>rfl,h,Ext.refl _ _,ae,λ fq hq _=>hq⟩
 | v::vs,x::xs,fp,id,G,lk,h,hO,cX,hF,aL,nU,hR=>by
  obtain⟨f1,f2,rfl,h1,h2⟩:=hO;rw[a8M] at cX;obtain⟨ZZ,Z0,Z1⟩:=cX;simp only[aU,a9F] at nU;rw[a8M] at nU;obtain⟨d1,d2,d3⟩:=nU;obtain⟨G1,lk1,l1,i1,e1,c1,Ut⟩:=h.Qc (id:=id) h1 ZZ (λ b hb=>hF b (by simp[hb])) (λ p hp=>aL p (by simp[aU,hp])) d1 hR;have dh:∀ p∈aU (id+20) vs,af (bR id v.cells) p.1=none:=λ p hp=>Nx λ q hq e=>d3 q.1 (a8w.2 ⟨q,hq,rfl⟩) p.1 (a8w.2 ⟨p,hp,rfl⟩) e;obtain⟨G2,lk2,k1,k2,k3,k4,k5⟩:=aV.FT (vs:=vs) (xs:=xs) (fp:=f2) (id:=id+20) i1 h2 Z0
   (Ut f2 (λ b hb=>hF b (by simp[hb])) (λ b hb cq=>Z1 b cq b hb rfl)) (λ p hp=>by rw[l1 p.1];unfold fZ;rw[dh p hp];exact aL p (by simp[aU,hp])) d2 (λ j hj=>hR j (by omega))
  refine⟨G2,lk2,λ i=>?_,k2,e1.trans k3,⟨c1.ext k3,k4⟩,λ fq hq uX=>k5 fq (Ut fq hq λ b hb cq=>uX b hb (by simp[cq])) λ b hb cq=>uX b hb (by simp[cq])⟩;rw[k1 i,show lk1=fZ (bR id v.cells) lk from funext l1];exact Xi dh lk i
 | [],_::_,_,_,_,_,_,hO,_,_,_,_,_=>hO.elim
 | _::_,[],_,_,_,_,_,hO,_,_,_,_,_=>hO.elim
theorem oQ(r r':List (Nat×au))(i:Nat):af (r++r') i=fZ r (af r') i:=by
 unfold fZ;induction r with
 | nil=>rfl
 | cons p r ih =>
  obtain⟨k,o⟩:=p;rw[a9i,de,de];by_cases hj:i=k
  .simp[hj]
  .simpa [hj] using ih
theorem Fu{id:Nat}{res:List TV}{x:Value}{fp:List Nat}(h:AF w res x fp):∃ xs,FP w res xs fp/\∀ (G:Gh) (lk:Nat->Option au),aI (TR c G lk w) (HH id res) xs->VR c G lk w (iH id res) x:=by
 match res,h with
 | [v],h=>exact⟨[x],⟨fp,[],by simp,h,rfl⟩,λ G lk ha=>ha.1.eS⟩
 | [],h =>
  obtain⟨l,h1,h2⟩:=h;exact⟨l,h2,λ G lk ha=>⟨l,h1,ha⟩⟩
 | v::u::r,h =>
  obtain⟨l,h1,h2⟩:=h;exact⟨l,h2,λ G lk ha=>⟨l,h1,ha⟩⟩
end
section
variable {c:Ctx} {G:Gh} {s:ag} {a:Act} {w w':World}
theorem cZ:∀ {l:List Nat},nodupB l=true->l.Nodup
 | [],_=>a9x
 | a::r,h=>by
  simp only[nodupB] at h;split at h
  .cases h
  .rename_i hc;exact List.nodup_cons.2 ⟨by simpa using hc,cZ h⟩
theorem NU(hE:bu c.P c.E)(h:Inv c G s a w){o:Oper}{f:FuncId}{Ts:List TypeId}{vs:List AV}{xs:List Value}{Z9:List Arg}{pre:Vc}{res:List TV}{d b:Nat}{Q:Exit->Act->World->Prop}
  (has:jP c.E s.af Ts vs=some Z9) (jG:aI (VR c G s.af w) vs xs) (hc:c.E.HD f Z9=some (pre,res)) (M3:pre.ok) (hd:o.dst=some d)
  (qC:∀ p∈aU b res,s.af p.1=none) (nU:((aU b res).map (·.1)).Nodup) (hR:100<=b)
  (cz:kI c.P f->(execOp a.eval o).run c.P w = .ok (.enter f xs.toArray) w) :
  o.wp c.P a w (λ a' w'=>∃ G',Inv c G' { aw:=s.aw.set d (iH b res),aC:=aU b res++s.aC } a' w') Q:=by
 obtain⟨qB,kZ⟩:=hE.HD f Z9 pre res hc M3;unfold Oper.wp;rw[cz qB];simp only[Oper.upon];refine (kZ w (SX G s.af) xs [] ?_ (.NR (fR hE h (λ _ _ h=>h) (λ _ h => .inl h) (λ τ v x y h1 h2=>uI h.aM h.aC (λ _ _ h=>h) h1 h2) has jG)) (.inl rfl) List.nodup_nil (by simp)).mono ?_
 .exact h.TM
 .rintro e w' ⟨x,fp,rfl,hk,hO,cX,nP⟩;have hk:bH (λ _=>False) w w':=⟨hk.os,hk.tape,hk.output,hk.size,λ b hb _=>hk.block b hb (by simp)⟩;have nP:∀ b∈fp,w.heap.size<=b/\b<w'.heap.size:=λ b hb=>(nP b hb).resolve_left (by simp);have hI:=aV.grow h hk (S':=G.S) (λ _ _=>b0G) (λ b hb=>a8B (h.dH b hb) hk.size);obtain⟨ys,wH,M6⟩:=Fu (c:=c) (id:=b) hO;have hF:Fr c ⟨G.S,G.η,G.φ⟩ s.af w' fp:=λ b hb=>by
   obtain⟨h1,h2⟩:=nP b hb;have:=h.aE.size;refine⟨.inl (by omega),λ hs=>?_,h2,λ i o' hi tA=>?_,λ j τ zs hj mj=>?_⟩
   .have:=h.dH b hs;omega
   .have:=(h.place i o' b hi tA).2.2;omega
   .have:=(h.aM.pl j τ zs b hj mj).2.2.1;omega
  obtain⟨G',lk',k1,k2,k3,k4,_⟩:=hI.FT (id:=b) wH cX hF qC nU (λ j hj=>by
   cases hr:c.R j with
   | none=>rfl
   | some v=>have:=h.fN j v hr;omega)
  refine⟨G',?_⟩;have bO:ag.af { aw:=s.aw.set d (iH b res),aC:=aU b res++s.aC }=lk':=by
   funext i;rw[k1 i];exact oQ _ _ i
  unfold Inv;rw[bO,hd,show ag.sl { aw:=s.aw.set d (iH b res),aC:=aU b res++s.aC }=iu s.aw.length s.sl (some d) (iH b res) from nJ s.aw d _ _,
   show ({ aw:=s.aw.set d (iH b res),aC:=aU b res++s.aC }:ag).aw.length=s.aw.length from by simp]
  exact aV.put k2 (M6 G' lk' k4)
end
theorem eW{α:Type}:∀ {l:List (Nat×α)} {id:Nat} {o:α},af l id=some o->(id,o)∈l
 | (k,p)::r,id,o,h=>by
  simp only[af] at h;split at h
  .rename_i hk;have hk:=a8s hk;simp only[a8r] at h;subst hk h;simp
  .exact a9p _ (eW h)
theorem rW{α:Type}:∀ {l:List (Nat×α)} {id:Nat} {o:α},(l.map (·.1)).Nodup->(id,o)∈l->af l id=some o
 | (k,p)::r,id,o,hd,h=>by
  simp only[a9a,a8V] at hd;simp only[af];rcases a8G.1 h with e|h
  .simp only[a8u] at e;obtain⟨rfl,rfl⟩:=e;simp
  .split
   .rename_i hk;have hk:=a8s hk;subst hk;exact absurd (a8w.2 ⟨_,h,rfl⟩) hd.1
   .exact rW hd.2 h
section
variable {c:Ctx} {G:Gh} {sl:Nat->AV} {n:Nat} {lk:Nat->Option au} {a:Act} {w w':World}
abbrev TE:=Value×List Nat×au
def Ci(A:List (Nat×TE))(G:Gh)(i:Nat):Value:=match af A i with
 | some e=>e.1
 | none=>G.η i
def wi(A:List (Nat×TE))(G:Gh)(i:Nat):List Nat:=match af A i with
 | some e=>e.2.1
 | none=>G.φ i
def TP(A:List (Nat×TE))(lk:Nat->Option au)(i:Nat):Option au:=match af A i with
 | some e=>some e.2.2
 | none=>lk i
structure X5(G:Gh)(lk:Nat->Option au)(w':World)(id:Nat)(e:TE):Prop where
 ex:∃ τ xs cI v l l',lk id=some (.aA τ xs)/\e.2.2 = .aA τ cI/\G.η id = .tuple (v::l).toArray/\e.1 = .tuple (v::l').toArray/\gG w' e.1 τ cI e.2.1/\e.2.1.Nodup
theorem DC.ofList{A:List (Nat×TE)}(hA:∀ p∈A,X5 G lk w' p.1 p.2)(UL:∀ p∈A,∀ b∈p.2.2.1,(∃ q∈A,b∈G.φ q.1)\/sw c G lk w' b)(QH:∀ p∈A,∀ q∈A,∀ b∈p.2.2.1,b∈q.2.2.1->p.1=q.1)(cX:(A.map (·.1)).Nodup)
  (a4j:∀ b,b<w.heap.size->(∀ p∈A,b∉G.φ p.1)->w'.heap[b]?=w.heap[b]?) (hos:w'.os=w.os) (UZ:w'.tape=w.tape) (PO:w'.output=w.output) (wJ:w.heap.size<=w'.heap.size) :
  DC c G lk (TP A lk) w w' (Ci A G) (wi A G) (λ i=>∃ e,af A i=some e) where
 same id hi:=by
  have:af A id=none:=by
   cases hx:af A id with
   | none=>rfl
   | some e=>exact absurd ⟨e,hx⟩ hi
  simp[TP,Ci,wi,this]
 aA id:=by
  rintro⟨e,he⟩;obtain⟨τ,xs,cI,v,l,l',h1,h2,h3,h4,h5,h6⟩:=(hA _ (eW he)).ex;refine⟨τ,xs,cI,v,l,l',h1,?_,h3,?_,?_,?_⟩
  .simp only[TP,he];rw[<-h2]
  .simp only[Ci,he];exact h4
  .simp only[Ci,wi,he];exact h5
  .simp only[wi,he];exact h6
 a2H id b:=by
  rintro⟨e,he⟩ hb;simp only[wi,he] at hb;rcases UL _ (eW he) b hb with ⟨q,hq,hbq⟩|QP
  .exact .inl ⟨q.1,⟨q.2,rW cX hq⟩,hbq⟩
  .exact .inr QP
 apart id di b:=by
  rintro⟨e,he⟩ ⟨e',xy⟩ hb cq;simp only[wi,he] at hb;simp only[wi,xy] at cq;exact QH _ (eW he) _ (eW xy) b hb cq
 heap b hb hn:=a4j b hb λ p hp=>hn p.1 ⟨p.2,rW cX hp⟩
 os:=hos
 tape:=UZ
 output:=PO
 size:=wJ
def uq(G:Gh)(lk:Nat->Option au)(ids:List Nat)(b:Nat):Prop :=
 ∃ id∈ids,(∃ τ xs,lk id=some (.aA τ xs)/\b∈G.φ id)\/∃ e τ xs,lk id=some (.row e τ xs)/\dt (G.η id)=some b
theorem uq.mono{ids a3c:List Nat}{b:Nat}(h:uq G lk ids b)(hs:∀ i∈ids,i∈a3c):uq G lk a3c b:=by
 obtain⟨id,hi,h⟩:=h;exact⟨id,hs id hi,h⟩
theorem aV.iB(h:aV c G sl n lk a w){i j:List Nat}{b:Nat}(hi:uq G lk i b)(hj:uq G lk j b)(hd:∀ x∈i,∀ y∈j,x≠y):False:=by
 obtain⟨x,hx,h1⟩:=hi;obtain⟨y,hy,h2⟩:=hj;rcases h1 with ⟨τ,xs,k1,k2⟩|⟨e,τ,xs,k1,k2⟩<;>rcases h2 with ⟨aO,cI,m1,m2⟩|⟨e',aO,cI,m1,m2⟩
 .exact hd x hx y hy (h.aM.ap x y τ aO xs cI b k1 m1 k2 m2)
 .exact (h.aM.pl x τ xs b k1 k2).2.2.2 y _ m1 m2
 .exact (h.aM.pl y aO cI b m1 m2).2.2.2 x _ k1 k2
 .exact hd x hx y hy (h.apart x y _ _ b k1 m1 k2 m2)
theorem pO{τ:Ty}(h:τ.rN=true)(y:τ.den):(τ.aD y).light=true:=by
 cases τ<;>first|rfl|cases h
theorem Nv:∀ {l:List D},(∀ d∈l,d.light=true)->D.Cz l=true
 | [],_=>rfl
 | d::ds,h=>by
  simp only[D.Cz,a8I];exact⟨h d (by simp),Nv λ e he=>h e (a9p _ he)⟩
theorem Rl{τ:Ty}(h:τ.plain=true)(y:τ.den):(τ.aD y).light=true:=by
 cases τ with
 | st s =>
  show (s.aD y).light=true;rw[aJ.bT];refine Nv λ d hd=>?_;obtain⟨u,hu,rfl⟩:=a8w.1 hd;have ht:u.τ∈s.pG:=by rw[<-aJ.og s y];exact a8w.2 ⟨u,hu,rfl⟩
  exact pO (a9c.1 h _ ht) u.x
 | slice t=>cases h
 | mv t=>cases h
 | ptr=>rfl
 | int k=>rfl
 | bool=>rfl
 | str=>rfl
theorem wh(h:aV c G sl n lk a w){τ:Ty}{v:AV}{x:Value}{y:τ.den}{ids:List Nat}(ht:eh lk τ v=some (y,ids))(hv:C1 c G lk w v x):∃ fp,Ow w (τ.aD y) [x] fp/\fp.Nodup/\∀ b∈fp,uq G lk ids b:=by
 cases v with
 | aK u =>
  simp only[eh] at ht;split at ht
  .rename_i y' hs hy;simp only[a8r,a8u] at ht;obtain⟨rfl,rfl⟩:=ht;have e:=TV.aS hy;subst e;exact⟨[],Ow.dT _ (pO hs _) hv.2,a9x,by simp⟩
  .cases ht
 | nil =>
  cases τ with
  | slice t =>
   simp only[eh,a8r,a8u] at ht;obtain⟨rfl,rfl⟩:=ht;exact⟨[],⟨none,0,by rw[show x=_ from hv];rfl,by simp,by simp[maxLen],by simp, .inl ⟨rfl,⟨rfl,rfl⟩,rfl⟩⟩,a9x,by simp⟩
  | _=>cases ht
 | aA id =>
  simp only[eh] at ht;split at ht
  .rename_i aO xs hl;split at ht
   .rename_i y' hy;simp only[a8r,a8u] at ht;obtain⟨rfl,rfl⟩:=ht;have e:=TV.aS hy;cases e;obtain⟨_,l,h2,_⟩:=hv;exact⟨G.φ id,Ow.a4I (h.aM.tr id aO xs hl) h2,h.aM.nd id aO xs hl,λ b hb=>⟨id,by simp, .inl ⟨aO,xs,hl,hb⟩⟩⟩
   .cases ht
  .cases ht
 | row id =>
  simp only[eh] at ht;split at ht
  .rename_i e aO xs hl;split at ht
   .rename_i y' hp hy;simp only[a8r,a8u] at ht;obtain⟨rfl,rfl⟩:=ht;have e1:=TV.aS hy;cases e1;obtain⟨hx,_,_⟩:=hv;obtain⟨l,h1,h2,h3⟩:=h.aC id _ hl;have QR:∀ d∈xs.map aO.aD,d.light=true:=λ d hd=>by
     obtain⟨z,_,rfl⟩:=a8w.1 hd;exact Rl hp z
    rcases h1.2 with ⟨QX,hn⟩|⟨g,cap,cur,QX,_,hh,OK,UI,iY,U0⟩
    .have jG:xs=[]:=a9s hn;subst jG;exact⟨[],⟨none,0,by rw[hx,QX];rfl,by simp,by simp[maxLen],by simp, .inl ⟨rfl,⟨rfl,rfl⟩,rfl⟩⟩,a9x,by simp⟩
    .refine⟨[g],⟨some ⟨g,0,none⟩,cap,by rw[hx,QX];simp,by simpa using OK,UI,by simpa using h3, .inr ⟨g,[],cur.toList,e,rfl,rfl,by simpa using hh,?_⟩⟩,by simp,λ b hb=>?_⟩
     .have hr:=bG.dT (w:=w) (S:=G.S) (xs.map aO.aD) (l:=l) (m:=cur.toList.drop (xs.length * aO.size)) QR h2;rw[<-U0,a9Q] at hr;exact⟨by rw[a9k];exact iY,hr⟩
     .simp only[a8L] at hb;subst hb;exact⟨id,by simp, .inr ⟨e,aO,xs,hl,by rw[QX];rfl⟩⟩
   .cases ht
  .cases ht
 | _=>cases ht
theorem dQ{l1 l2:List Nat}(h1:l1.Nodup)(h2:l2.Nodup)(h3:∀ x∈l1,x∉l2):(l1++l2).Nodup:=by
 rw[a8M];exact⟨h1,h2,λ x hx y hy e=>h3 x hx (e ▸ hy)⟩
theorem H4(h:aV c G sl n lk a w):∀ {cs:List AV} {ts:List Ty} {us:List TV} {ids:List Nat} {l:List Value},H3 lk cs ts=some (us,ids)->aI (C1 c G lk w) cs l->ids.Nodup ->
  ∃ fp,cT w (us.map TV.aD) l fp/\fp.Nodup/\(∀ b∈fp,uq G lk ids b)/\us.map TV.τ=ts
 | [],[],us,ids,l,ht,hl,_=>by
  simp only[H3,a8r,a8u] at ht;obtain⟨rfl,rfl⟩:=ht;match l,hl with
  | [],_=>exact⟨[],⟨rfl,rfl⟩,a9x,by simp,rfl⟩
 | cc::cs,t::ts,us,ids,l,ht,hl,cX=>by
  simp only[H3] at ht;split at ht
  .rename_i x i hx;split at ht
   .rename_i r j hr;simp only[a8r,a8u] at ht;obtain⟨rfl,rfl⟩:=ht;match l,hl with
    | v::l,hl =>
     rw[a8M] at cX;obtain⟨n1,n2,n3⟩:=cX;obtain⟨f1,a1,a2,a3⟩:=wh h hx hl.1;obtain⟨f2,b1,b2,b3,b4⟩:=H4 h hr hl.2 n2;refine⟨f1++f2,⟨v,l,f1,f2,rfl,rfl,a1,b1⟩,dQ a2 b2 λ b hb cq=>h.iB (a3 b hb) (b3 b cq) (λ x hx y hy=>n3 x hx y hy),λ b hb=>?_,by simp[b4]⟩;rcases a8t.1 hb with hb|hb
     .exact (a3 b hb).mono λ k hk=>by simp[hk]
     .exact (b3 b hb).mono λ k hk=>by simp[hk]
   .cases ht
  .cases ht
 | [],_::_,_,_,_,ht,_,_=>by cases ht
 | _::_,[],_,_,_,ht,_,_=>by cases ht
theorem pR(h:aV c G sl n lk a w){τ:Ty}{v:AV}{x:Value}{y:τ.den}{ids:List Nat}(ht:FI lk τ v=some (y,ids))(hv:VR c G lk w v x)(cX:ids.Nodup):∃ fp,Ah w ⟨τ,y⟩ x fp/\fp.Nodup/\∀ b∈fp,uq G lk ids b:=by
 have one:(∀ cs,v ≠ .agg cs)->eh lk τ v=some (y,ids)->∃ fp,Ah w ⟨τ,y⟩ x fp/\fp.Nodup/\∀ b∈fp,uq G lk ids b:=by
  intro hna ht;have bQ:∀ s,τ ≠ .st s:=λ s e=>by
   subst e;cases v with
   | aK u=>simp[eh,Ty.rN] at ht
   | nil=>simp[eh] at ht
   | aA id =>
    simp only[eh] at ht;split at ht
    .split at ht
     .rename_i hy;have e:=TV.aS hy;cases e
     .cases ht
    .cases ht
   | row id =>
    simp only[eh] at ht;split at ht
    .split at ht
     .rename_i hy;have e:=TV.aS hy;cases e
     .cases ht
    .cases ht
   | _=>cases ht
  have hc:C1 c G lk w v x:=by
   refine hv.P4 ?_;cases v with
   | aK u =>
    simp only[eh] at ht;split at ht
    .rename_i hy;have e:=TV.aS hy;subst e;cases τ<;>first|rfl|exact absurd rfl (bQ _)
    .cases ht
   | nil=>rfl
   | aA id=>rfl
   | row id=>rfl
   | _=>cases ht
  obtain⟨fp,h1,h2,h3⟩:=wh h ht hc;refine⟨fp,?_,h2,h3⟩;cases τ with
  | st s=>exact absurd rfl (bQ s)
  | _=>exact h1
 cases v with
 | agg cs =>
  cases τ with
  | st s =>
   simp only[FI] at ht;split at ht
   .rename_i us i iY;split at ht
    .rename_i y' hy;simp only[a8r,a8u] at ht;obtain⟨rfl,rfl⟩:=ht;obtain⟨l,rfl,hl⟩:=hv;obtain⟨fp,h1,h2,h3,_⟩:=H4 h iY hl cX;refine⟨fp,⟨l,rfl,?_⟩,h2,h3⟩;rw[aJ.bT,aJ.lv hy];exact h1
    .cases ht
   .cases ht
  | _=>cases ht
 | _=>exact one (by intro cs;simp) ht
theorem cT.split:∀ (ds:List D) {l:List Value} {fp:List Nat} (i:Nat) (d:D),cT w ds l fp->ds[i]?=some d ->
  ∃ v f0 f1 f2,fp=f0++f1++f2/\l[i]?=some v/\Ow w d [v] f1/\∀ (w':World) (d':D) (v':Value) (gI:List Nat),(∀ b∈f0++f2,w'.heap[b]?=w.heap[b]?)->Ow w' d' [v'] gI->cT w' (ds.set i d') (l.set i v') (f0++gI++f2)
 | [],_,_,_,_,_,hi=>by simp at hi
 | e::ds,_,_,0,d,h,hi=>by
  obtain⟨v,r,f1,f2,rfl,rfl,h3,h4⟩:=h;simp at hi;subst hi;exact⟨v,[],f1,f2,by simp,rfl,h3,λ w' d' v' gI hw hd=>⟨v',r,gI,f2,rfl,by simp,hd,cT.aE ds h4 λ b hb=>hw b (by simp[hb])⟩⟩
 | e::ds,_,_,i+1,d,h,hi=>by
  obtain⟨v,r,g1,g2,rfl,rfl,h3,h4⟩:=h;obtain⟨u,f0,f1,f2,rfl,k1,k2,k3⟩:=cT.split ds i d h4 (by simpa using hi);refine⟨u,g1++f0,f1,f2,by simp,by simpa using k1,k2,λ w' d' v' gI hw hd=>?_⟩;exact⟨v,r.set i v',g1,f0++gI++f2,rfl,by simp,Ow.aE e h3 λ b hb=>hw b (by simp[hb]),k3 w' d' v' gI (λ b hb=>hw b (by simp at hb ⊢;rcases hb with hb|hb<;>simp[hb])) hd⟩
theorem Ki(v:AV):v.cN=v\/v.cN = .any:=by unfold AV.cN;split<;>simp
theorem DV(v:AV):v.cN.HY=false:=by
 unfold AV.cN;split
 .rfl
 .assumption
theorem Ku:∀ cs:List AV,AV.mz (cs.map AV.cN)=false
 | []=>rfl
 | v::r=>by simp only[a9a,AV.mz,DV];exact Ku r
theorem C1.cN{v:AV}{x:Value}(h:C1 c G lk w v x):C1 c G lk w v.cN x:=by
 rcases Ki v with e|e
 .rw[e];exact h
 .rw[e];trivial
theorem D9(o:Option au):dX o (o.map au.cN):=by
 refine⟨λ h=>?_,λ e τ xs h=>⟨e,xs,by rw[h];rfl,a8C _⟩,λ h=>?_,λ h=>?_⟩
 .match o,h with
  | some (.box cs),_=>rfl
 .match o,h with
  | some (.aA τ xs),_=>rfl
 .match o,h with
  | some (.map m),_=>rfl
theorem vU{o:Option au}{τ:Ty}{xs:List τ.den}(h:o.map au.cN=some (.aA τ xs)):o=some (.aA τ xs):=by
 match o,h with
 | some (.aA aO cI),h=>exact h
 | some (.box _),h=>cases h
 | some (.row ..),h=>cases h
theorem aV.cd(h:aV c G sl n lk a w):aV c G (λ i=>(sl i).cN) n (λ i=>(lk i).map au.cN) a w:=by
 have h1:aV c G (λ i=>(sl i).cN) n lk a w:=h.forget λ i=>Ki (sl i);exact {
  defers:=h1.defers,size:=h1.size,aE:=h1.aE,jN:=h1.jN,ew:=h1.ew,sX:=h1.sX,dH:=h1.dH
  aw:=λ i=>(h1.aw i).mono (λ j _=>⟨D9 _,rfl⟩) (λ _ h=>h) (λ _ _=>rfl)
  aC:=λ i o ho=>by
   rw[a8Z] at ho;obtain⟨o',cF,rfl⟩:=ho;have hk:OR c G lk w i o'.cN:=by
    have:=h1.aC i o' cF;cases o' with
    | box cs =>
     obtain⟨b,l,t,k1,k2,k3⟩:=this;exact⟨b,l,t,k1,k2,aI.dR _ (k3.imp λ u y _ hy=>hy.cN)⟩
    | row e τ xs=>exact this
    | aA τ xs=>exact this
    | map m=>exact this
   exact hk.mono rfl (λ _ _=>rfl) (λ j _=>⟨D9 _,rfl⟩) (λ _ h=>h) (λ _ _=>rfl)
  place:=λ i o b ho hb=>by
   rw[a8Z] at ho;obtain⟨o',cF,rfl⟩:=ho;exact h1.place i o' b cF hb
  apart:=λ i j o o' b ho cF hb cq=>by
   rw[a8Z] at ho cF;obtain⟨p,hp,rfl⟩:=ho;obtain⟨q,hq,rfl⟩:=cF;exact h1.apart i j p q b hp hq hb cq
  aM:=h1.aM.sub (λ i τ xs k=>vU k) (λ i o k=>by
   rw[a8Z] at k;obtain⟨p,hp,_⟩:=k;exact⟨p,hp⟩)
  root:=λ i v hr ht=>h1.root i v hr (by
   match hl:lk i,ht with
   | some (.aA ..),_=>rfl
   | some (.box _),ht=>simp[hl,au.cN,cS] at ht
   | some (.row ..),ht=>simp[hl,au.cN,cS] at ht
   | none,ht=>simp[hl,cS] at ht)
  fN:=h1.fN
  dy:=λ i v hr ht=>h1.dy i v hr (by
   match hl:lk i,ht with
   | some (.box _),_=>rfl
   | some (.aA ..),ht=>simp[hl,au.cN,gm] at ht
   | some (.row ..),ht=>simp[hl,au.cN,gm] at ht
   | none,ht=>simp[hl,gm] at ht)
  eM:=h1.eM }
end
section
variable {c:Ctx} {G:Gh} {s:ag} {a:Act} {w w':World}
theorem Oe(s:ag):s.cd.sl=λ i=>(s.sl i).cN:=by
 funext i;simp only[ag.sl,ag.cd,a8D,a9R];cases s.aw[i]?<;>rfl
theorem iG(s:ag):s.cd.af=λ i=>(s.af i).map au.cN:=by
 funext i;exact CA _ _ _
theorem Inv.cd(h:Inv c G s a w):Inv c G s.cd a w/\(∀ i,(s.cd.sl i).HY=false)/\∀ id cs,s.cd.af id=some (.box cs)->AV.mz cs=false:=by
 refine⟨?_,λ i=>by rw[Oe];exact DV _,λ id cs aL=>?_⟩
 .unfold Inv;rw[Oe,iG,show s.cd.aw.length=s.aw.length from by simp[ag.cd]];exact aV.cd h
 .rw[iG] at aL;simp only[a8Z] at aL;obtain⟨o,_,ho⟩:=aL;cases o with
  | box dm=>cases ho;exact Ku dm
  | row e τ xs=>cases ho
  | aA τ xs=>cases ho
  | map m=>cases ho
theorem Inv.a2b(h:Inv c G s a w){A:List (Nat×TE)}(hA:∀ p∈A,X5 G s.af w' p.1 p.2)(UL:∀ p∈A,∀ b∈p.2.2.1,(∃ q∈A,b∈G.φ q.1)\/sw c G s.af w' b)(QH:∀ p∈A,∀ q∈A,∀ b∈p.2.2.1,b∈q.2.2.1->p.1=q.1)(cX:(A.map (·.1)).Nodup)
  {F:Nat->Prop} (hk:bH F w w') (hF:∀ b,F b->∃ p∈A,b∈G.φ p.1) {t:ag} (hts:t.aw=s.cd.aw) (qE:∀ i,t.af i=TP A s.cd.af i) {d:Option Nat} {v:AV} {x:Value} (hv:∀ G' lk,VR c G' lk w' v x) :
  ∃ G',Inv c G' (t.put d v) (a.put d x) w':=by
 obtain⟨h1,h2,h3⟩:=h.cd;have YK:∀ p∈A,X5 G s.cd.af w' p.1 p.2:=λ p hp=>by
  obtain⟨τ,xs,cI,v,l,l',k1,k2⟩:=(hA p hp).ex;exact⟨τ,xs,cI,v,l,l',by rw[iG];simp[k1,au.cN],k2⟩
 have a1E:∀ p∈A,∀ b∈p.2.2.1,(∃ q∈A,b∈G.φ q.1)\/sw c G s.cd.af w' b:=λ p hp b hb=>(UL p hp b hb).imp id λ ⟨q1,q2,q3,q4,q5⟩ =>
  ⟨q1,q2,q3,λ i o hi=>by
   rw[iG] at hi;simp only[a8Z] at hi;obtain⟨o',cF,_⟩:=hi;exact q4 i o' cF,λ j τ xs hj=>q5 j τ xs (by rw[iG] at hj;exact vU hj)⟩
 have T:=DC.ofList (c:=c) (w:=w) YK a1E QH cX (λ b hb hn=>hk.block b hb λ hf=>by
  obtain⟨p,hp,hbp⟩:=hF b hf;exact hn p hp hbp) hk.os hk.tape hk.output hk.size
 have hI:=aV.dY h1 T h2 h3;refine⟨_,Inv.put (G:=⟨G.S,Ci A G,wi A G⟩) ?_ (hv _ _)⟩;unfold Inv;rw[show t.sl=s.cd.sl from by funext i;simp only[ag.sl,hts],show t.af=TP A s.cd.af from funext qE,hts];exact hI
theorem TQ(id:Nat)(e:TE)(lk:Nat->Option au)(i:Nat):TP [(id,e)] lk i=if i=id then some e.2.2 else lk i:=by
 unfold TP;simp only[af];by_cases hi:i=id
 .subst hi;simp
 .have:Nat.beq id i=false:=by
   cases hb:Nat.beq id i with
   | false=>rfl
   | true=>exact absurd (a8s hb).symm hi
  simp[this,hi]
theorem lu(s:ag)(id:Nat)(τ:Ty)(xs:List τ.den)(i:Nat):(s.hU id τ xs).af i=if i=id then some (.aA τ xs) else s.af i:=by
 show af ((id,_)::bA id s.aC) i=_;rw[de,dP];by_cases hi:i=id
 .simp[hi]
 .simp[hi];rfl
theorem a1Z{lk:Nat->Option au}{k:Int}(h:ai k):VR c G lk w (.aK ⟨.int .i64,k⟩) (.int .i64 k):=by
 refine⟨rfl,?_⟩;simp only[IntKind.min,IntKind.max,IntKind.signed,IntKind.bits,b0k];obtain⟨q1,q2⟩:=h;constructor<;>omega
theorem vZ{f0 f1 f2 gI:List Nat}(h:(f0++f1++f2).Nodup)(h1:gI.Nodup)(hs:∀ b∈gI,b∈f1\/(b∉f0/\b∉f2)):(f0++gI++f2).Nodup:=by
 rw[a8M,a8M] at h;obtain⟨⟨a1,a2,a3⟩,a4,a5⟩:=h;refine dQ (dQ a1 h1 λ x hx mo=>(hs x mo).elim (λ q=>a3 x hx x q rfl) λ q=>q.1 hx) a4 λ x hx mo=>?_;rcases a8t.1 hx with hx|hx
 .exact a5 x (by simp[hx]) x mo rfl
 .exact (hs x hx).elim (λ q=>a5 x (by simp[q]) x mo rfl) λ q=>q.2 mo
theorem Kr{w:World}{τ XQ:Ty}{x:τ.den}{off:Nat}{u:TV}(hu:TV.part ⟨τ,x⟩ off XQ=some u)(bQ:XQ.agg=false){ce:List Value}{fp:List Nat}(hO:Ow w (τ.aD x) ce fp) :
  ∃ v f0 f1 f2,fp=f0++f1++f2/\ce[off]?=some v/\Ow w u.aD [v] f1/\∀ (w':World) (u':TV) (y:τ.den) (v':Value) (gI:List Nat),lB τ x off u'=some y->(∀ b∈f0++f2,w'.heap[b]?=w.heap[b]?)->Ow w' u'.aD [v'] gI->Ow w' (τ.aD y) (ce.set off v') (f0++gI++f2):=by
 cases τ with
 | st s =>
  have k9:(s.cells x)[off]?=some u:=by
   unfold TV.part at hu;split at hu
   .rename_i hb;simp only[a8I] at hb;have:=a8U hb.2;have e:Ty.st s=XQ:=this;subst e;cases bQ
   .split at hu
    .rename_i z hz;split at hu
     .simp only[a8r] at hu;subst hu;exact hz
     .cases hu
    .cases hu
  rw[show Ty.aD (.st s) x=s.aD x from rfl,aJ.bT] at hO;obtain⟨v,f0,f1,f2,h1,h2,h3,h4⟩:=cT.split _ off u.aD hO (by rw[a9R,k9];rfl);refine⟨v,f0,f1,f2,h1,h2,h3,λ w' u' y v' gI hp hw wH=>?_⟩;simp only[lB,k9] at hp;split at hp
  .have hy:=aJ.lv hp;rw[show Ty.aD (.st s) y=s.aD y from rfl,aJ.bT,hy,b1T];exact h4 w' u'.aD v' gI hw wH
  .cases hp
 | slice t =>
  have np:off=0/\u=⟨.slice t,x⟩:=by
   unfold TV.part at hu;split at hu
   .rename_i hb;simp only[a8I] at hb;simp only[a8r] at hu;exact⟨a8s hb.1,hu.symm⟩
   .split at hu
    .rename_i z hz;cases off with
     | zero=>simp[TV.cells] at hz;subst hz;split at hu<;>simp_all
     | succ k=>simp[TV.cells] at hz
    .cases hu
  obtain⟨rfl,rfl⟩:=np;have hl:=Ow.length _ hO;match ce,hl with
  | [v],_ =>
   refine⟨v,[],fp,[],by simp,rfl,hO,λ w' u' y v' gI hp _ wH=>?_⟩;simp only[lB] at hp;have e:=TV.aS hp;subst e;rw[a9e,a9B];exact wH
 | mv t =>
  have np:off=0/\u=⟨.mv t,x⟩:=by
   unfold TV.part at hu;split at hu
   .rename_i hb;simp only[a8I] at hb;simp only[a8r] at hu;exact⟨a8s hb.1,hu.symm⟩
   .split at hu
    .rename_i z hz;cases off with
     | zero=>simp[TV.cells] at hz;subst hz;split at hu<;>simp_all
     | succ k=>simp[TV.cells] at hz
    .cases hu
  obtain⟨rfl,rfl⟩:=np;have hl:=Ow.length _ hO;rw[Ty.cg] at hl;match ce,hl with
  | [v],_ =>
   refine⟨v,[],fp,[],by simp,rfl,hO,λ w' u' y v' gI hp _ wH=>?_⟩;simp only[lB] at hp;have e:=TV.aS hp;subst e;rw[a9e,a9B];exact wH
 | ptr =>
  have np:off=0/\u=⟨.ptr,x⟩:=by
   unfold TV.part at hu;split at hu
   .rename_i hb;simp only[a8I] at hb;simp only[a8r] at hu;exact⟨a8s hb.1,hu.symm⟩
   .split at hu
    .rename_i z hz;cases off with
     | zero=>simp[TV.cells] at hz;subst hz;split at hu<;>simp_all
     | succ k=>simp[TV.cells] at hz
    .cases hu
  obtain⟨rfl,rfl⟩:=np;have hl:=Ow.length _ hO;rw[Ty.cg] at hl;match ce,hl with
  | [v],_ =>
   refine⟨v,[],fp,[],by simp,rfl,hO,λ w' u' y v' gI hp _ wH=>?_⟩;simp only[lB] at hp;have e:=TV.aS hp;subst e;rw[a9e,a9B];exact wH
 | int k =>
  have np:off=0/\u=⟨.int k,x⟩:=by
   unfold TV.part at hu;split at hu
   .rename_i hb;simp only[a8I] at hb;simp only[a8r] at hu;exact⟨a8s hb.1,hu.symm⟩
   .split at hu
    .rename_i z hz;cases off with
     | zero=>simp[TV.cells] at hz;subst hz;split at hu<;>simp_all
     | succ k=>simp[TV.cells] at hz
    .cases hu
  obtain⟨rfl,rfl⟩:=np;have hl:=Ow.length _ hO;match ce,hl with
  | [v],_ =>
   refine⟨v,[],fp,[],by simp,rfl,hO,λ w' u' y v' gI hp _ wH=>?_⟩;simp only[lB] at hp;have e:=TV.aS hp;subst e;rw[a9e,a9B];exact wH
 | bool =>
  have np:off=0/\u=⟨.bool,x⟩:=by
   unfold TV.part at hu;split at hu
   .rename_i hb;simp only[a8I] at hb;simp only[a8r] at hu;exact⟨a8s hb.1,hu.symm⟩
   .split at hu
    .rename_i z hz;cases off with
     | zero=>simp[TV.cells] at hz;subst hz;split at hu<;>simp_all
     | succ k=>simp[TV.cells] at hz
    .cases hu
  obtain⟨rfl,rfl⟩:=np;have hl:=Ow.length _ hO;match ce,hl with
  | [v],_ =>
   refine⟨v,[],fp,[],by simp,rfl,hO,λ w' u' y v' gI hp _ wH=>?_⟩;simp only[lB] at hp;have e:=TV.aS hp;subst e;rw[a9e,a9B];exact wH
 | str =>
  have np:off=0/\u=⟨.str,x⟩:=by
   unfold TV.part at hu;split at hu
   .rename_i hb;simp only[a8I] at hb;simp only[a8r] at hu;exact⟨a8s hb.1,hu.symm⟩
   .split at hu
    .rename_i z hz;cases off with
     | zero=>simp[TV.cells] at hz;subst hz;split at hu<;>simp_all
     | succ k=>simp[TV.cells] at hz
    .cases hu
  obtain⟨rfl,rfl⟩:=np;have hl:=Ow.length _ hO;match ce,hl with
  | [v],_ =>
   refine⟨v,[],fp,[],by simp,rfl,hO,λ w' u' y v' gI hp _ wH=>?_⟩;simp only[lB] at hp;have e:=TV.aS hp;subst e;rw[a9e,a9B];exact wH
theorem Tx(l:List Value)(o n k:Nat)(v:Value)(hk:k<n)(hl:o+n<=l.length):l.take o++((l.drop o).take n).set k v++l.drop (o+n)=l.set (o+k) v:=by
 conv=>rhs;rw[<-a9Q o l]
 rw[b0Y _ _ (by simp;omega),a8Y];congr 1;have e:o+k - (List.take o l).length=k:=by rw[a9t];omega
 rw[e];conv=>rhs;rw[<-a9Q n (l.drop o)]
 rw[List.set_append_left _ _ (by rw[a9t,a9C];omega),b1B]
theorem Vy{w:World}{η:Value}{τ XQ:Ty}{xs:List τ.den}{fp:List Nat}(hT:gG w η τ xs fp)(cX:fp.Nodup){a0:Option Addr}{n cap:Nat}{l:List Value}(eP:η = .tuple (.slice a0 n cap::l).toArray){i off:Nat}(hi:i<n){u:TV}
  (hu:TV.part ⟨τ,xs.getD i τ.zero⟩ off XQ=some u) (bQ:XQ.agg=false) (np:off<τ.size):n=xs.length /\
  ∃ v f1,l[i * τ.size+off]?=some v/\Ow w u.aD [v] f1/\f1.Nodup/\(∀ b∈f1,b∈fp)/\∀ (w':World) (u':TV) (y:τ.den) (v':Value) (gI:List Nat),lB τ (xs.getD i τ.zero) off u'=some y->(∀ b∈fp,b∉f1->(a0=some ⟨b,0,none⟩->∃ t,w'.heap[b]?=some (.cells (l.set (i * τ.size+off) v').toArray t (0,0)))/\(a0≠some ⟨b,0,none⟩->w'.heap[b]?=w.heap[b]?))->Ow w' u'.aD [v'] gI->gI.Nodup->(∀ b∈gI,b∈f1\/b∉fp) ->
   ∃ Us,gG w' (.tuple (.slice a0 n cap::l.set (i * τ.size+off) v').toArray) τ (xs.set i y) Us/\Us.Nodup/\∀ b∈Us,b∈fp\/b∈gI:=by
 obtain⟨v0,l0,a1,Po,h1,h2,h3,h4,h5,h6⟩:=hT;rw[eP] at h1;simp only[a9T] at h1;have h1:(Value.slice a0 n cap::l)=v0::l0:=congrArg Array.toList h1;simp only[a8x] at h1;obtain⟨hq,tE⟩:=h1;subst tE;rw[h2] at hq;simp only[b0b] at hq;obtain⟨rfl,rfl,rfl⟩:=hq;rcases h6 with ⟨rfl,_,_⟩|⟨b,f,t,rfl,rfl,k1,k0,k2⟩
 .simp at hi
 .have bW:∀ d∈xs.map τ.aD,d.size=τ.size:=by
   intro d hd;obtain⟨z,_,rfl⟩:=a8w.1 hd;exact Ty.cg τ z
  obtain⟨g0,g1,g2,rfl,hlen,m1,m2⟩:=bG.split (xs.map τ.aD) i (τ.aD (xs.getD i τ.zero)) k2 bW (by simp[List.getD,hi]);obtain⟨v,p0,p1,p2,rfl,q1,q2,q3⟩:=Kr hu bQ m1;have hvl:l[i * τ.size+off]?=some v:=by
   rw[a9L,a8A np,b0t] at q1;exact q1
  rw[a8V] at cX;obtain⟨hb,cX⟩:=cX;have PN:(p0++p1++p2).Nodup:=by
   rw[a8M,a8M] at cX;exact cX.1.2.1
  have SH:p1.Nodup:=by
   rw[a8M,a8M] at PN;exact PN.1.2.1
  refine⟨rfl,v,p1,hvl,q2,SH,λ b hb=>by simp[hb],λ w' u' y v' gI hp hw wH rS W5=>?_⟩;have dis:∀ c∈g0++(p0++p1++p2)++g2,c∉p1->w'.heap[c]?=w.heap[c]?:=λ c hc hn=>(hw c (a9p _ hc) hn).2 λ e=>by
   simp only[a8r,b0f,a8T] at e;subst e;exact hb hc
  have ep:∀ c,c∈p1->c∈p0++p1++p2:=λ c hc=>by simp[hc]
  rw[a8M,a8M] at cX;obtain⟨⟨n1,n2,n3⟩,n4,n5⟩:=cX;have h0:∀ c∈g0++g2,c∉p1:=λ c hc IL=>by
   rcases a8t.1 hc with hc|hc
   .exact n3 c hc c (ep c IL) rfl
   .exact n5 c (a8t.2 (.inr (ep c IL))) c hc rfl
  have h00:∀ c∈p0++p2,c∉p1:=λ c hc IL=>by
   rw[a8M,a8M] at PN;rcases a8t.1 hc with hc|hc
   .exact PN.1.2.2 c hc c IL rfl
   .exact PN.2.2 c (by simp[IL]) c hc rfl
  have hy:=q3 w' u' y v' gI hp (λ c hc=>dis c (by simp at hc ⊢;rcases hc with hc|hc<;>simp[hc]) (h00 c hc)) wH;have eG:=m2 w' (τ.aD y) _ (p0++gI++p2) (λ c hc=>dis c (by simp at hc ⊢;rcases hc with hc|hc<;>simp[hc]) (h0 c hc)) (by simp only[List.length_set,List.length_take,List.length_drop];omega) hy;rw[Tx l _ _ _ v' np hlen,<-List.map_set] at eG;obtain⟨t',IP⟩:=(hw b (by simp) λ hc=>hb (by simp[hc])).1 rfl;refine⟨b::(g0++(p0++gI++p2)++g2),⟨_,_,_,cap,rfl,by simp,by simpa using h3,h4,by simpa using h5, .inr ⟨b,_,t',rfl,rfl,IP,by rw[List.length_set];exact k0,eG⟩⟩,?_,?_⟩
  .have QP:∀ c∈gI,c∈p1\/(c∉p0/\c∉p2):=λ c hc=>(W5 c hc).imp id λ q=>⟨λ q'=>q (by simp[q']),λ q'=>q (by simp[q'])⟩;have zA:∀ c∈p0++gI++p2,c∈p0++p1++p2\/(c∉g0/\c∉g2):=λ c hc=>by
    simp only[a8t] at hc;rcases hc with (hc|hc)|hc
    .exact .inl (by simp[hc])
    .rcases W5 c hc with q|q
     .exact .inl (by simp[q])
     .exact .inr ⟨λ q'=>q (by simp[q']),λ q'=>q (by simp[q'])⟩
    .exact .inl (by simp[hc])
   rw[a8V];refine⟨λ hc=>?_,vZ (f1:=p0++p1++p2) (dQ (dQ n1 n2 λ x hx mo=>n3 x hx x mo rfl) n4 λ x hx mo=>n5 x hx x mo rfl) (vZ PN rS QP) zA⟩;simp only[a8t] at hc;rcases hc with (hc|(hc|hc)|hc)|hc
   .exact hb (by simp[hc])
   .exact hb (by simp[hc])
   .rcases W5 b hc with q|q
    .exact hb (by simp[q])
    .exact q (by simp)
   .exact hb (by simp[hc])
   .exact hb (by simp[hc])
  .intro c hc;simp only[a8G,a8t] at hc;rcases hc with hc|(hc|(hc|hc)|hc)|hc
   .exact .inl (by simp[hc])
   .exact .inl (by simp[hc])
   .exact .inl (by simp[hc])
   .exact .inr hc
   .exact .inl (by simp[hc])
   .exact .inl (by simp[hc])
end
section
variable {c:Ctx} {G:Gh} {s:ag} {a:Act} {w w':World}
theorem x7(h:Inv c G s a w){o:Oper}{v:AV}{x:Value}{Q:Exit->Act->World->Prop}(hr:(execOp a.eval o).run c.P w = .ok (.value x) w)(hv:VR c G s.af w v x) :
  o.wp c.P a w (λ a' w'=>∃ G',Inv c G' (s.put o.dst v) a' w') Q:=by
 unfold Oper.wp;rw[hr];exact⟨G,Inv.put h hv⟩
theorem ss{η:Value}{τ:Ty}{xs:List τ.den}{fp:List Nat}(hT:gG w η τ xs fp){a0:Option Addr}{n cap:Nat}{l:List Value}(eP:η = .tuple (.slice a0 n cap::l).toArray){i:Nat}(hi:i<n) :
  n=xs.length/\∃ b f t,a0=some ⟨b,0,none⟩/\fp=b::f/\w.heap[b]?=some (.cells l.toArray t (0,0))/\bG w (xs.map τ.aD) l f:=by
 obtain⟨v0,l0,a1,Po,h1,h2,h3,h4,h5,h6⟩:=hT;rw[eP] at h1;simp only[a9T] at h1;have h1:(Value.slice a0 n cap::l)=v0::l0:=congrArg Array.toList h1;simp only[a8x] at h1;obtain⟨hq,tE⟩:=h1;subst tE;rw[h2] at hq;simp only[b0b] at hq;obtain⟨rfl,rfl,rfl⟩:=hq;rcases h6 with ⟨rfl,_,_⟩|⟨b,f,t,q1,q2,q3,q4⟩
 .simp at hi
 .exact⟨rfl,b,f,t,q1,q2,q3,q4.2⟩
theorem Ib{t:Ty}{x:Value}(h:C1 c G s.af w (zeroCell t) x)(ht:t.agg=false):Ow w (t.aD t.zero) [x] []:=by
 cases t with
 | slice t' =>
  have h:x = .slice none 0 0:=h;subst h;exact⟨none,0,rfl,a8C _,by simp[maxLen],a9l _, .inl ⟨rfl,⟨rfl,rfl⟩,rfl⟩⟩
 | st s=>cases ht
 | mv t=>exact Ow.dT (S:=G.S) _ rfl h.2
 | ptr=>exact Ow.dT (S:=G.S) _ rfl h.2
 | int k=>exact Ow.dT (S:=G.S) _ rfl h.2
 | bool=>exact Ow.dT (S:=G.S) _ rfl h.2
 | str=>exact Ow.dT (S:=G.S) _ rfl h.2
theorem WE(s:aJ):∀ t∈s.pG,t.agg=false:=λ t ht=>by
 rw[<-aJ.og s s.zero] at ht;obtain⟨u,hu,rfl⟩:=a8w.1 ht;exact L0 s _ u hu
theorem a1h{c:Ctx}{G:Gh}{s:ag}{τ:Ty}{z:Value}(h:wm τ z=true):Ow w (τ.aD τ.zero) z.cells.toList []:=by
 have h1:=iR (c:=c) (G:=G) (lk:=s.af) (w:=w) h;cases τ with
 | st st =>
  simp only[zeroCells] at h1;show Ow w (st.aD st.zero) _ [];rw[aJ.bT];have hz:(st.cells st.zero).map TV.aD=st.pG.map λ t=>t.aD t.zero:=by cases st<;>rfl
  rw[hz];have h2:=aI.of_map _ h1;have:∀ (ts:List Ty) (vs:List Value),aI (λ t x=>Ow w (t.aD t.zero) [x] []) ts vs->cT w (ts.map λ t=>t.aD t.zero) vs []:=by
   intro ts;induction ts with
   | nil=>intro vs h;cases vs<;>first|exact⟨rfl,rfl⟩|cases h
   | cons t ts ih =>
    intro vs h;cases vs with
    | nil=>cases h
    | cons v vs=>exact⟨v,vs,[],[],rfl,rfl,h.1,ih vs h.2⟩
  exact this _ _ (h2.imp λ t x ht hx=>Ib hx (WE st t ht))
 | _ =>
  simp only[zeroCells] at h1;match hc:z.cells.toList,h1 with
  | [x],h1=>exact Ib h1.1 rfl
theorem bG.RX:∀ (ds:List D) {es:List D} {l m:List Value} {n:Nat},bG w ds l []->(∀ d∈ds,d.size=n)->l.length=ds.length * n->bG w es m []->bG w (ds++es) (l++m) []
 | [],es,l,m,n,_,_,hl,h=>by
  have:l=[]:=List.eq_nil_of_length_eq_zero (by simpa using hl);subst this;simpa using h
 | d::ds,es,l,m,n,h,hn,hl,h'=>by
  obtain⟨cc,r,f1,f2,rfl,hf,h3,h4⟩:=h;have hf:=(List.append_eq_nil_iff.1 hf.symm);obtain⟨rfl,rfl⟩:=hf;have hc:cc.length=n:=by rw[Ow.length _ h3];exact hn d (by simp)
  refine⟨cc,r++m,[],[],by simp,rfl,h3,bG.RX ds h4 (λ d hd=>hn d (by simp[hd])) ?_ h'⟩;simp only[a8E,a8F,a9u,Nat.one_mul] at hl;omega
theorem bG.more:∀ (ds:List D) {l:List Value} {fp:List Nat} (m:List Value),bG w ds l fp->bG w ds (l++m) fp
 | [],_,_,_,h=>h
 | d::ds,_,_,m,h=>by
  obtain⟨cc,r,f1,f2,rfl,hf,h3,h4⟩:=h;exact⟨cc,r++m,f1,f2,by simp,hf,h3,bG.more ds m h4⟩
theorem DW{d:D}{z:Array Value}(h:Ow w d z.toList []):∀ k:Nat,bG w (List.replicate k d) (madeCells z (k * z.size)).toList []
 | 0=>rfl
 | k+1=>by
  have hz:d.size=z.size:=by have:=Ow.length _ h;simpa using this.symm
  rw[zQ,b2q];refine bG.RX (n:=z.size) _ (DW h k) (λ e he=>by rw[b1U he];exact hz) (by simp[madeCells]) ⟨z.toList,[],[],[],by simp,rfl,h,rfl⟩
theorem IC(h:Inv c G s a w)(id:Nat):Inv c G (s.gone id) a w:=by
 obtain⟨h1,_,_⟩:=h.clear id;have bO:(s.gone id).af=λ i=>if i=id then none else (s.bM id).af i:=by
  funext i;exact dP id _ i
 unfold Inv;show aV c G (s.bM id).sl (s.bM id).aw.length (s.gone id).af a w;rw[bO,show (s.bM id).aw.length=s.aw.length from by simp[ag.bM]];exact h1
theorem yQ(s:ag)(id i:Nat):(s.gone id).af i=if i=id then none else (s.af i).map (au.kill id):=by
 show af (bA id (s.bM id).aC) i=_;rw[dP,<-congrFun (dF s id) i];rfl
theorem tl:∀ (ids:List Nat) {s:ag},Inv c G s a w->Inv c G (ids.foldl ag.gone s) a w
 | [],_,h=>h
 | id::r,_,h=>tl r (IC h id)
theorem U7(id:Nat){τ:Ty}{xs:List τ.den}{o:Option au}(h:o=some (.aA τ xs)):o.map (au.kill id)=some (.aA τ xs):=by subst h;rfl
theorem Kb:∀ (ids:List Nat) {s:ag} {id:Nat} {τ:Ty} {xs:List τ.den},s.af id=some (.aA τ xs)->id∉ids->(ids.foldl ag.gone s).af id=some (.aA τ xs)
 | [],_,_,_,_,h,_=>h
 | i::r,s,id,τ,xs,h,hn=>by
  refine Kb r ?_ (λ hh=>hn (by simp[hh]));rw[yQ,a8v (λ e=>hn (by simp[e]))];exact U7 i h
theorem EM:∀ (ids:List Nat) {s:ag} {i:Nat} {o:au},(ids.foldl ag.gone s).af i=some o->i∉ids/\∃ o',s.af i=some o'/\∀ τ xs,o = .aA τ xs->o' = .aA τ xs
 | [],s,i,o,h=>⟨by simp,o,h,λ _ _ e=>e⟩
 | id::r,s,i,o,h=>by
  obtain⟨h1,o',h2,h3⟩:=EM r h;rw[yQ] at h2;split at h2
  .cases h2
  .rename_i dh;simp only[a8Z] at h2;obtain⟨p,hp,hk⟩:=h2;refine⟨by simp[dh,h1],p,hp,λ τ xs e=>?_⟩;have:=h3 τ xs e;subst this;have hm:(some p).map (au.kill id)=some (.aA τ xs):=by rw[<-hk];rfl
   have:=gT hm;simpa using this
theorem Ca{o:Oper}{T:TypeId}{ad x:Operand}(aW:o.op = .store T ad x){w':World}{s':ag}{G':Gh}(hr:(Instr.storeAt T (a.eval ad) (a.eval x)).run c.P w = .ok () w')(hI:Inv c G' (s'.put none .any) a w'){Q:Exit->Act->World->Prop} :
  o.wp c.P a w (λ a' w'=>∃ G',Inv c G' (s'.put o.dst .any) a' w') Q:=by
 unfold Oper.wp;have:(execOp a.eval o).run c.P w = .ok .skip w':=by simp only[execOp,aW,Sem.run_bind,hr,Result.andThen_ok,Sem.run_pure]
 rw[this];exact⟨G',Inv.put (s:=s') hI trivial⟩
theorem Ol(hE:bu c.P c.E)(h:Inv c G s a w){T:TypeId}{τ aO:Ty}{bt e:Nat}(hT:af c.E.ty T=some (τ,bt,e)){id i off:Nat}{xs:List aO.den}(aL:s.af id=some (.aA aO xs)){p x:Value}(hp:VR c G s.af w (.dW id i off aO.size) p)(np:off+τ.size<=aO.size)
  (ns:x.cells.toList.length=τ.size) (tD:∀ u∈x.cells.toList,u.oneCell'=true) {y:aO.den}
  (hO:∀ (b:Nat) (f:List Nat) (l:List Value) (w':World),G.φ id=b::f->l.length>=i * aO.size+aO.size->bG w (xs.map aO.aD) l f->(∀ k,k≠b->w'.heap[k]?=w.heap[k]?) ->
   ∃ f',bG w' ((xs.set i y).map aO.aD) (l.take (i * aO.size+off)++x.cells.toList++l.drop (i * aO.size+off+τ.size)) f'/\f'.Nodup/\b∉f'/\∀ k∈f',k∈f\/sw c G s.af w k) :
  ∃ w' G',(Instr.storeAt T p x).run c.P w = .ok () w'/\Inv c G' (s.cd.hU id aO (xs.set i y)) a w':=by
 obtain⟨_,b,n,cap,l,eP,hi,rfl⟩:=hp;obtain⟨rfl,b',f,t,e1,nP,hh,eG⟩:=ss (h.aM.tr id aO xs aL) eP hi;simp only[a8r,b0f,a8T] at e1;subst e1;have bW:∀ d∈xs.map aO.aD,d.size=aO.size:=by
  intro d hd;obtain⟨z,_,rfl⟩:=a8w.1 hd;exact Ty.cg aO z
 obtain⟨_,_,_,_,hlen,_,_⟩:=bG.split (xs.map aO.aD) i (aO.aD (xs.getD i aO.zero)) eG bW (by simp[List.getD,hi]);have cz:=y8 (c:=c) (l:=l) hE hT (o:=i * aO.size+off) (x:=x) hh ns tD (by omega);have xA:∀ k,k≠b->(w.setRow b (l.take (i * aO.size+off)++x.cells.toList++l.drop (i * aO.size+off+τ.size)).toArray).heap[k]?=w.heap[k]?:=λ k hk=>kc w hh k hk;obtain⟨f',k1,k2,k3,k4⟩:=hO b f l _ nP hlen eG xA;have nV:=b2K w b l.toArray (l.take (i * aO.size+off)++x.cells.toList++l.drop (i * aO.size+off+τ.size)).toArray t (0,0) hh;have Sq:gG (w.setRow b (l.take (i * aO.size+off)++x.cells.toList++l.drop (i * aO.size+off+τ.size)).toArray) (.tuple (.slice (some ⟨b,0,none⟩) xs.length cap::(l.take (i * aO.size+off)++x.cells.toList++l.drop (i * aO.size+off+τ.size))).toArray) aO (xs.set i y) (b::f'):=by
  obtain⟨v0,l0,a1,Po,h1,h2,h3,h4,h5,h6⟩:=h.aM.tr id aO xs aL;rw[eP] at h1;simp only[a9T] at h1;have h1:(Value.slice (some ⟨b,0,none⟩) xs.length cap::l)=v0::l0:=congrArg Array.toList h1;simp only[a8x] at h1;obtain⟨hq,tE⟩:=h1;rw[h2] at hq;simp only[b0b] at hq;obtain⟨rfl,_,rfl⟩:=hq;have Bl:l.length=cap * aO.size:=by
   rw[tE];rcases h6 with ⟨_,h',_⟩|⟨_,_,_,_,_,_,k0,_⟩
   .cases h'.1
   .exact k0
  exact⟨_,_,_,cap,rfl,by simp,by simpa using h3,h4,by simpa using h5, .inr ⟨b,f',t,rfl,rfl,nV,by rw[<-Bl];simp only[List.length_append,List.length_take,List.length_drop,ns];omega,k1⟩⟩
 have W3:=h.aM.pl id aO xs;have:=h.a2b (w':=w.setRow b (l.take (i * aO.size+off)++x.cells.toList++l.drop (i * aO.size+off+τ.size)).toArray) (t:=s.cd.hU id aO (xs.set i y)) (F:=λ k=>k=b)
  (A:=[(id,(.tuple (.slice (some ⟨b,0,none⟩) xs.length cap::(l.take (i * aO.size+off)++x.cells.toList++l.drop (i * aO.size+off+τ.size))).toArray,b::f', .aA aO (xs.set i y)))]) ?_ ?_ ?_ (by simp)
  ⟨rfl,rfl,rfl,by simp[World.setRow],λ k hk dh=>xA k dh⟩ (λ k hk=>⟨_,a8L.2 rfl,by rw[nP,hk];simp⟩) rfl (λ j=>?_) (d:=none) (v := .any) (x:=undef) (λ _ _=>trivial)
 .obtain⟨G',hG⟩:=this;exact⟨_,G',cz,hG⟩
 .intro p hp;simp only[a8L] at hp;subst hp;exact⟨aO,xs,_,_,l,_,aL,rfl,eP,rfl,Sq,a8V.2 ⟨k3,k2⟩⟩
 .intro p hp k hk;simp only[a8L] at hp;subst hp;rcases a8G.1 hk with rfl|hk
  .exact .inl ⟨_,a8L.2 rfl,by rw[nP];simp⟩
  .rcases k4 k hk with hk|hk
   .exact .inl ⟨_,a8L.2 rfl,by rw[nP];simp[hk]⟩
   .exact .inr (hk.grow (by simp[World.setRow]))
 .intro p hp q hq k _ _;simp only[a8L] at hp hq;rw[hp,hq]
 .rw[TQ,lu]
theorem Ah.cells{w:World}{τ:Ty}{y:τ.den}{x:Value}{fp:List Nat}(h:Ah w ⟨τ,y⟩ x fp):Ow w (τ.aD y) x.cells.toList fp:=by
 cases τ with
 | st s =>
  obtain⟨cs,rfl,h⟩:=h;exact h
 | slice t =>
  obtain⟨a',cap,h1,_⟩:=id h;simp only[a8x,a8T] at h1;subst h1;exact h
 | mv t =>
  have h1:=Ow.length _ (show Ow w (mvD t.size t.aD y) [x] fp from h);cases hy:(show Option (List t.den) from y) with
  | none =>
   have e:y=(none:Option (List t.den)):=hy;subst e;obtain⟨⟨a',n,m,h1⟩,_⟩:=id h;simp only[a8x,a8T] at h1;subst h1;exact h
  | some l =>
   have e:y=(some l:Option (List t.den)):=hy;subst e;obtain⟨a',cap,h1,_⟩:=id h;simp only[a8x,a8T] at h1;subst h1;exact h
 | ptr=>obtain⟨⟨p,h1⟩,_⟩:=id h;simp only[a8x,a8T] at h1;subst h1;exact h
 | int k=>obtain⟨⟨h1,_⟩,_⟩:=id h;simp only[a8x,a8T] at h1;subst h1;exact h
 | bool=>have h1:=h.1;simp only[a8x,a8T] at h1;subst h1;exact h
 | str=>obtain⟨⟨z,h1,_⟩,_⟩:=id h;simp only[a8x,a8T] at h1;subst h1;exact h
theorem Od(l:List Value)(k:Nat)(v:Value)(h:k<l.length):l.take k++[v]++l.drop (k+1)=l.set k v:=by
 rw[List.set_eq_take_append_cons_drop,a8A h,a8Y];rfl
theorem GI(h:Inv c G s a w){ids:List Nat}{b:Nat}(hb:uq G s.af ids b):sw c G (ids.foldl ag.gone s).af w b:=by
 obtain⟨id,hi,hq⟩:=hb;have hp:(c.w0.heap.size<=b\/c.X b)/\¬ G.S b/\b<w.heap.size:=by
  rcases hq with ⟨τ,xs,q1,q2⟩|⟨e,τ,xs,q1,q2⟩
  .obtain⟨p1,p2,p3,_⟩:=h.aM.pl id τ xs b q1 q2;exact⟨p1,p2,p3⟩
  .obtain⟨p1,p2,p3⟩:=h.place id _ b q1 q2;exact⟨p1,p2,p3⟩
 refine⟨hp.1,hp.2.1,hp.2.2,λ i o bV tA=>?_,λ j τ xs hj mj=>?_⟩
 .obtain⟨h1,o',h2,_⟩:=EM ids bV;rcases hq with ⟨τ,xs,q1,q2⟩|⟨e,τ,xs,q1,q2⟩
  .exact (h.aM.pl id τ xs b q1 q2).2.2.2 i o' h2 tA
  .have:=h.apart i id o' _ b h2 q1 tA q2;subst this;exact h1 hi
 .obtain⟨h1,o',h2,h3⟩:=EM ids hj;have:=h3 τ xs rfl;subst this;rcases hq with ⟨aO,cI,q1,q2⟩|⟨e,aO,cI,q1,q2⟩
  .have:=h.aM.ap j id _ _ _ _ b h2 q1 mj q2;subst this;exact h1 hi
  .exact (h.aM.pl j τ xs b h2 mj).2.2.2 id _ q1 q2
theorem a1l{l:List Operand}{u v:AV}(h:Inv c G s a w)(hl:l.map s.eval=[u,v]):∃ x y,l.map a.eval=[x,y]/\VR c G s.af w u x/\VR c G s.af w v y:=by
 have:=aI.jr (aR h) l;rw[hl] at this;match hx:l.map a.eval,this with
 | [x,y],hh=>exact⟨x,y,rfl,hh.1,hh.2.1⟩
theorem A2{lk:Nat->Option au}{id i sz:Nat}(hit:cS (lk id)=true){a0:Option Addr}{n cap:Nat}{l:List Value}(eP:G.η id = .tuple (.slice a0 n cap::l).toArray)(ep:i<n):∀ (us:List TV) (j:Nat) (cs:List Value) (fp:List Nat),(∀ u∈us,Um u.τ=true) ->
  cT w (us.map TV.aD) cs fp->(∀ k x,cs[k]?=some x->l[i * sz+(j+k)]?=some x)->aI (C1 c G lk w) (Iy id i sz j us) cs
 | [],j,cs,fp,_,h,_=>by
  obtain⟨rfl,_⟩:=h;trivial
 | ⟨τ,y⟩::us,j,cs,fp,hok,h,hl=>by
  obtain⟨v,r,f1,f2,rfl,rfl,h3,h4⟩:=h;have ih:=A2 hit eP ep us (j+1) r f2 (λ u hu=>hok u (List.mem_cons_of_mem _ hu)) h4 (λ k x hk=>by have:=hl (k+1) x (by simpa using hk);rwa [show j+(k+1)=j+1+k by omega] at this);have ho:Um τ=true:=hok ⟨τ,y⟩ (by simp);have hv:=hl 0 v rfl;refine⟨?_,ih⟩;cases τ with
  | slice t =>
   refine⟨hit,_,_,_,_,eP,ep,hv,?_⟩;obtain⟨a',Mm,q,_⟩:=h3;simp only[a8x,a8T] at q;exact⟨_,_,_,q⟩
  | mv t=>cases ho
  | st s=>cases ho
  | int k=>exact⟨rfl,h3.1⟩
  | bool=>exact⟨rfl,h3.1⟩
  | str=>exact⟨rfl,h3.1⟩
  | ptr=>exact⟨rfl,h3.1⟩
theorem Vj(hE:bu c.P c.E)(h:Inv c G s a w){o:Oper}{vc:Vc}{s':ag}(hq:Rj c.E s o=some (vc,s'))(dO:vc.ok){Q:Exit->Act->World->Prop} :
  o.wp c.P a w (λ a' w'=>∃ G',Inv c G' s' a' w') Q:=by
 unfold Rj at hq;split at hq;case h_1 T x ix aW =>
  split at hq;case h_2=>cases hq
  case h_1 τ r hT =>
  split at hq;case h_2=>cases hq
  case h_1 k i id hi hx =>
  split at hq;case h_2=>cases hq
  case h_1 aO xs aL =>
  split at hq;case h_2=>cases hq
  case h_1 gQ =>
  have bW:aO.size=τ.size:=by
   simp only[a9O] at gQ;rcases gQ with gQ|gQ
   .rw[a8U gQ]
   .unfold Ty.a3g at gQ;split at gQ
    .rename_i p q;have e:=congrArg List.length (a8U gQ);rw[a8W] at e;have e1:=congrArg List.length (aJ.og p p.zero);have e2:=congrArg List.length (aJ.og q q.zero);rw[a8W,aJ.gf] at e1 e2;simp only[Ty.size];omega
    .cases gQ
  simp only[a8r,a8u] at hq;obtain⟨rfl,rfl⟩:=hq;have oI:=aR h ix;rw[hi] at oI;obtain⟨oI,_⟩:=oI;simp only[a8x,a8T] at oI;have hv:=aR h x;rw[hx] at hv;obtain⟨hit,l,eP,ad,m,cap,Aw⟩:=hv;obtain⟨h0,h1⟩:=dO;have hTr:=h.aM.tr id aO xs aL;rw[Aw] at eP;have hm:m=xs.length:=by
   obtain⟨v0,l0,a1,Po,q1,q2,_⟩:=hTr;rw[eP] at q1;simp only[a9T] at q1;have q1:(Value.slice ad m cap::l)=v0::l0:=congrArg Array.toList q1;simp only[a8x] at q1;rw[q2] at q1;simp only[b0b] at q1;exact q1.1.2.1
  subst hm;obtain⟨_,b,f,t,e1,_⟩:=ss hTr eP (i:=i.toNat) (by omega);subst e1;refine x7 h (x := .pointer (some ⟨b,0+i.toNat * τ.size,none⟩)) ?_ ⟨hit,b,_,cap,l,eP,by omega,by simp⟩;simp only[execOp,aW,Aw,oI,a8N,nI hE hT h0 h1,a8J,a8O]
 case h_2 T x i aW =>
  split at hq;case h_2=>cases hq
  case h_1 st r hT =>
  split at hq;case h_2=>cases hq
  case h_1 id k off sz hx =>
  split at hq;case h_2=>cases hq
  case h_1 bm =>
  simp only[Option.some.injEq,Prod.mk.injEq] at hq;obtain⟨rfl,rfl⟩:=hq;have bm:i<st.fI.length:=by simpa [Nat.blt_eq] using bm
  have hv:=aR h x;rw[hx] at hv;obtain⟨h1,b,m,cap,l,h2,h3,h4⟩:=hv;refine x7 h (x := .pointer (some ⟨b,k * sz+(off+st.eu i),none⟩)) ?_ ⟨h1,b,m,cap,l,h2,h3,rfl⟩;simp only[execOp,aW,h4,a8N,iJ hE hT bm,a8J,a8O,b0z]
 case h_3 T ad aW =>
  split at hq;case h_2=>cases hq
  case h_1 τ r hT =>
  split at hq;case h_2=>cases hq
  case h_1 id i off sz hx =>
  split at hq;case h_2=>cases hq
  case h_1 aO xs aL =>
  split at hq;case h_2 =>
   unfold S8 at hq;split at hq;case h_2=>cases hq
   case h_1 q gP =>
   clear gP;split at hq;case h_2=>cases hq
   case h_1 y hb hy =>
   simp only[a8r,a8u] at hq;obtain⟨rfl,rfl⟩:=hq;have W4:aO = .st q/\HEq (xs.getD i aO.zero) y:=by
    have e:=TV.aS hy;simp only[TV.mk.injEq] at e;exact e
   obtain⟨rfl,e2⟩:=W4;have e2:=b1G e2;simp only[a8I] at hb;obtain⟨wI,Bj,yH⟩:=hb;have wI:=a8s wI;have Bj:=a8s Bj;subst wI Bj;have hv:=aR h ad;rw[hx] at hv;obtain⟨h1,b,m,cap,l,h2,h3,h4⟩:=hv;have Sq:=h.aM.tr id _ xs aL;obtain⟨hn,b',f,t,e1,M9,hh,eG⟩:=ss Sq h2 h3;simp only[a8r,b0f,a8T] at e1;subst e1;have Dr:i<xs.length:=by omega
   have Bl:l.length=cap * q.size/\xs.length<=cap:=by
    obtain⟨v0,l0,a1,Po,k1,k2,k3,k4,k5,k6⟩:=Sq;rw[h2] at k1;simp only[a9T] at k1;have k1:(Value.slice (some ⟨b,0,none⟩) m cap::l)=v0::l0:=congrArg Array.toList k1;simp only[a8x] at k1;obtain⟨k7,rfl⟩:=k1;rw[k2] at k7;simp only[b0b] at k7;obtain⟨_,_,rfl⟩:=k7;rcases k6 with ⟨rfl,_,_⟩|⟨_,_,_,_,_,_,k8,_⟩
    .simp at Dr
    .exact⟨k8,k3⟩
   have bW:∀ d∈xs.map (Ty.aD (.st q)),d.size=q.size:=λ d hd=>by
    obtain⟨z,_,rfl⟩:=a8w.1 hd;exact Ty.cg (.st q) z
   obtain⟨f0,f1,f2,hf,m0,m1,m2⟩:=bG.split (xs.map (Ty.aD (.st q))) i (Ty.aD (.st q) (xs.getD i (Ty.zero (.st q)))) eG bW (by simp[List.getD,Dr]);have rC:((l.drop (i * q.size)).take q.size).length=q.size:=by
    rw[a9t,a9C,Bl.1];have:i * q.size+q.size<=cap * q.size:=by rw[<-Nat.succ_mul];exact a9X _ (by omega)
    omega
   have m1:cT w ((q.cells y).map TV.aD) ((l.drop (i * q.size)).take q.size) f1:=by
    have:=m1;rw[show Ty.aD (.st q) (xs.getD i (Ty.zero (.st q)))=q.aD (xs.getD i (Ty.zero (.st q))) from rfl,aJ.bT] at this;rw[<-e2];exact this
   have Kd:∀ k x,((l.drop (i * q.size)).take q.size)[k]?=some x->l[i * q.size+k]?=some x:=λ k x hk=>by
    rw[a9L] at hk;split at hk
    .rwa [b0t] at hk
    .cases hk
   have k9:bh w b (i * q.size+0) ((l.drop (i * q.size)).take q.size):=λ j z hj=>by
    simp[World.cell?,hh,Kd j z hj]
   refine x7 h (x := .agg ((l.drop (i * q.size)).take q.size).toArray) ?_ ⟨_,rfl,A2 h1 h2 h3 (q.cells y) 0 _ f1 (λ u hu=>?_) m1 (λ k x hk=>by rw[a9I];exact Kd k x hk)⟩
   .simp only[execOp,aW,h4,a8N,ga hE hT k9 rC,a8J,a8O];rfl
   .have:u.τ∈q.pG:=by rw[<-aJ.og q y];exact a8w.2 ⟨u,hu,rfl⟩
    exact a9c.1 yH _ this
  case h_1 u hu hb =>
  simp only[Bool.and_eq_true,Bool.not_eq_true'] at hb;obtain⟨wI,Bj,yH⟩:=hb;have wI:=Nat.eq_of_beq_eq_true wI;subst wI;have yH:off<aO.size:=by simpa [Nat.blt_eq] using yH
  have hv:=aR h ad;rw[hx] at hv;obtain⟨h1,b,m,cap,l,h2,h3,h4⟩:=hv;obtain⟨rfl,v,f1,p1,p2,_⟩:=Vy (h.aM.tr id aO xs aL) (h.aM.nd id aO xs aL) h2 h3 hu Bj yH;obtain⟨_,b',f,t,e1,_,hh,_⟩:=ss (h.aM.tr id aO xs aL) h2 h3;simp only[a8r,b0f,a8T] at e1;subst e1;have k9:bh w b (i * aO.size+off) [v]:=λ j z hj=>by
   cases j with
   | zero =>
    simp at hj;subst hj;simp[World.cell?,hh,p1]
   | succ j=>simp at hj
  have UU:τ.size=1:=Ty.ia Bj;have cz:(execOp a.eval o).run c.P w = .ok (.value (Dy τ [v])) w:=by
   simp only[execOp,aW,h4,a8N,ga hE hT k9 (by rw[UU];rfl),a8J,a8O]
  have hmk:Dy τ [v]=v:=by cases τ<;>first|rfl|cases Bj
  rw[hmk] at cz;have W8:u.τ=τ:=by
   unfold TV.part at hu;split at hu
   .rename_i fW;simp only[a8I] at fW;simp only[a8r] at hu;rw[<-hu];exact a8U fW.2
   .split at hu
    .split at hu
     .rename_i hd;simp only[a8r] at hu;rw[<-hu];exact a8U hd
     .cases hu
    .cases hu
  split at hq;case h_1 yN =>
   simp only[a8r,a8u] at hq;obtain⟨rfl,rfl⟩:=hq;refine x7 h cz ?_;obtain⟨TZ,yu⟩:=u;have W8:TZ=τ:=W8;subst W8;have hl:(Ty.aD TZ yu).light=true:=pO yN yu;have hr:Rd w G.S (Ty.aD TZ yu) [v]:=by
    cases TZ with
    | int k=>exact p2.1
    | bool=>exact p2.1
    | str=>exact p2.1
    | slice t=>cases yN
    | mv t=>cases yN
    | ptr=>exact p2.1
    | st s=>cases yN
   cases TZ with
   | mv t=>cases yN
   | st s=>cases yN
   | slice t=>cases yN
   | _=>exact hr
  case h_2 yN =>
   simp only[a8r,a8u] at hq;obtain⟨rfl,rfl⟩:=hq;refine x7 h cz ⟨h1,_,_,cap,l,h2,h3,p1,?_⟩;obtain⟨TZ,yu⟩:=u;have W8:TZ=τ:=W8;subst W8;cases TZ with
   | slice t =>
    obtain⟨a',Mm,q,_⟩:=p2;simp only[a8x,a8T] at q;exact⟨_,_,_,q⟩
   | st s=>cases Bj
   | mv t =>
    cases hy:(show Option (List t.den) from yu) with
    | none =>
     have e:yu=(none:Option (List t.den)):=hy;subst e;obtain⟨⟨a',n,m,q⟩,_⟩:=p2;simp only[a8x,a8T] at q;exact⟨_,_,_,q⟩
    | some l =>
     have e:yu=(some l:Option (List t.den)):=hy;subst e;obtain⟨a',Mm,q,_⟩:=p2;simp only[a8x,a8T] at q;exact⟨_,_,_,q⟩
   | int k=>cases yN
   | bool=>cases yN
   | str=>cases yN
   | ptr=>cases yN
 case h_4 T ad x aW =>
  split at hq;case h_2=>cases hq
  case h_1 τ r hT =>
  split at hq;case h_2=>cases hq
  case h_1 id i off sz hx =>
  split at hq;case h_2=>cases hq
  case h_1 aO xs aL =>
  split at hq;case h_2=>cases hq
  case h_1 hb =>
  simp only[Bool.and_eq_true] at hb;obtain⟨wI,yH⟩:=hb;have wI:=Nat.eq_of_beq_eq_true wI;subst wI;have yH:off<aO.size:=by simpa [Nat.blt_eq] using yH
  have hp:=aR h ad;rw[hx] at hp;have QZ:=aR h x;have ep:i<xs.length:=by
   obtain⟨_,b,m,cap,l,h2,h3,_⟩:=hp;obtain⟨h4,_⟩:=ss (h.aM.tr id aO xs aL) h2 h3;omega
  split at hq;case h_1 yN =>
   split at hq;case h_2=>cases hq
   case h_1 u j hu =>
   split at hq;case h_2=>cases hq
   case h_1 u0 y hu0 hy =>
   simp only[a8r,a8u] at hq;obtain⟨rfl,rfl⟩:=hq;have zx:τ.agg=false:=by cases τ<;>first|rfl|cases yN
   have UU:τ.size=1:=Ty.ia zx;have k9:(a.eval x).cells.toList=[a.eval x]/\(a.eval x).oneCell'=true/\Ow w (τ.aD u) [a.eval x] []:=by
    have hc:C1 c G s.af w (s.eval x) (a.eval x)/\(s.eval x).cell=true:=by
     have hcc:(s.eval x).cell=true:=by
      revert hu;cases cE:s.eval x with
      | aK v =>
       intro hu;simp only[eh] at hu;split at hu
       .rename_i M7;have e:=TV.aS M7;subst e;cases τ<;>first|rfl|cases zx
       .cases hu
      | nil=>intro hu;cases τ<;>first|(cases yN;done)|(cases hu;done)
      | aA id=>intro hu;simp[eh] at hu
      | row id=>intro hu;simp[eh] at hu
      | _=>intro hu;cases hu
     exact⟨QZ.P4 hcc,hcc⟩
    obtain⟨q1,q2⟩:=hc.1.leaf hc.2;refine⟨by rw[q2],q1,?_⟩;revert hu;have MS:=hc.1;revert MS;cases s.eval x with
    | aK v =>
     intro MS hu;simp only[eh] at hu;split at hu
     .rename_i a6D M7;have e:=TV.aS M7;subst e;simp only[a8r,a8u] at hu;rw[<-hu.1];exact Ow.dT (S:=G.S) _ (pO a6D _) MS.2
     .cases hu
    | nil=>intro _ hu;cases τ<;>first|(cases yN;done)|(cases hu;done)
    | aA id=>intro _ hu;simp[eh] at hu
    | row id=>intro _ hu;simp[eh] at hu
    | _=>intro _ hu;cases hu
   obtain⟨c1,c2,c3⟩:=k9;obtain⟨w',G',k1,k2⟩:=Ol hE h hT aL hp (y:=y) (x:=a.eval x) (by omega) (by rw[c1,UU];rfl) (by rw[c1];simpa using c2) (λ b f l w' M9 hlen eG xA=>by
    have bW:∀ d∈xs.map aO.aD,d.size=aO.size:=by
     intro d hd;obtain⟨z,_,rfl⟩:=a8w.1 hd;exact Ty.cg aO z
    have cX:=h.aM.nd id aO xs aL;rw[M9,a8V] at cX;obtain⟨WV,M0⟩:=cX;have iA:∀ k∈f,w'.heap[k]?=w.heap[k]?:=λ k hk=>xA k λ e=>WV (e ▸ hk);obtain⟨g0,g1,g2,rfl,_,m1,m2⟩:=bG.split (xs.map aO.aD) i (aO.aD (xs.getD i aO.zero)) eG bW (by simp[List.getD,ep]);obtain⟨v,p0,p1,p2,rfl,q1,q2,q3⟩:=Kr hu0 zx m1;have hy2:=q3 w' ⟨τ,u⟩ y (a.eval x) [] hy (λ k hk=>iA k (by simp at hk ⊢;rcases hk with hk|hk<;>simp[hk])) (c3.aE _ (by simp));have hr:=m2 w' (aO.aD y) _ (p0++[]++p2) (λ k hk=>iA k (by simp at hk ⊢;rcases hk with hk|hk<;>simp[hk])) (by simp only[a9q,a9t,a9C];omega) hy2;rw[Tx l _ _ _ _ yH hlen,<-b1T] at hr;refine⟨_,by rw[c1,UU,Od _ _ _ (by omega)];exact hr,?_,λ hk=>WV ?_,λ k hk => .inl ?_⟩
    .refine vZ (f1:=p0++p1++p2) M0 (vZ (f1:=p1) ?_ a9x (by simp)) (λ k hk => .inl (by simp at hk ⊢;rcases hk with hk|hk<;>simp[hk]));rw[a8M,a8M] at M0;exact M0.1.2.1
    .simp at hk ⊢;rcases hk with hk|hk|hk|hk<;>simp[hk]
    .simp at hk ⊢;rcases hk with hk|hk|hk|hk<;>simp[hk])
   exact Ca aW k1 k2
  case h_2 yN =>
   split at hq;case h_2=>cases hq
   case h_1 y ids np ht =>
   split at hq;case h_2=>cases hq
   case h_1 y' cX M7 =>
   simp only[a8r,a8u] at hq;obtain⟨rfl,rfl⟩:=hq;have np:=a8s np;subst np;have e:=TV.aS M7;have et:τ=aO:=congrArg TV.τ e;subst et;cases e;have cX:=cZ cX;rw[a8V] at cX;obtain⟨a2T,a1G⟩:=cX;obtain⟨fq,o1,o2,o3⟩:=pR h ht QZ a1G;have iY:=Ah.cells o1;have hlen:=Ow.length _ iY;rw[Ty.cg] at hlen;have h1:=tl ids h;have PJ:=Kb ids aL a2T;obtain⟨_,b0,m0,a5L,l0,a6I,Bo,hp0⟩:=hp;obtain⟨w',G',k1,k2⟩:=Ol hE h1 hT PJ (i:=i) (off:=0) (p:=a.eval ad) ⟨by rw[PJ];rfl,b0,m0,a5L,l0,a6I,Bo,hp0⟩ (y:=y) (x:=a.eval x) (by omega) hlen
    (Rd.gX (S:=λ b=>b∈fq) (x:=y) (Ow.rd _ iY λ b hb=>hb)) (λ b f l w' M9 a7y eG xA=>by
    have bW:∀ d∈xs.map τ.aD,d.size=τ.size:=by
     intro d hd;obtain⟨z,_,rfl⟩:=a8w.1 hd;exact Ty.cg τ z
    have a2V:=h.aM.nd id τ xs aL;rw[M9,a8V] at a2V;obtain⟨WV,M0⟩:=a2V;have iA:∀ k∈f,w'.heap[k]?=w.heap[k]?:=λ k hk=>xA k λ e=>WV (e ▸ hk);have uX:∀ k∈fq,k∉b::f:=λ k hk fe=>by
     refine h.iB (o3 k hk) (j:=[id]) ⟨id,by simp, .inl ⟨τ,xs,aL,by rw[M9];exact fe⟩⟩ λ x1 QY y1 OO e=>?_;simp only[a8L] at OO;exact a2T (by rw[<-OO,<-e];exact QY)
    obtain⟨g0,g1,g2,rfl,_,m1,m2⟩:=bG.split (xs.map τ.aD) i (τ.aD (xs.getD i τ.zero)) eG bW (by simp[List.getD,ep]);have hr:=m2 w' (τ.aD y) (a.eval x).cells.toList fq (λ k hk=>iA k (by simp at hk ⊢;rcases hk with hk|hk<;>simp[hk])) hlen (iY.aE _ λ k hk=>xA k λ e=>uX k hk (by simp[e]));rw[<-b1T] at hr;refine⟨g0++fq++g2,by rw[b0m];exact hr,?_,λ hk=>?_,λ k hk=>?_⟩
    .rw[a8M,a8M] at M0;obtain⟨⟨n1,n2,n3⟩,n4,n5⟩:=M0;refine dQ (dQ n1 o2 λ k hk fe=>uX k fe (by simp[hk])) n4 λ k hk fe=>?_;rcases a8t.1 hk with hk|hk
     .exact n5 k (a8t.2 (.inl hk)) k fe rfl
     .exact uX k hk (by simp[fe])
    .rcases a8t.1 hk with hk|hk
     .rcases a8t.1 hk with hk|hk
      .exact WV (by simp[hk])
      .exact uX b hk (by simp)
     .exact WV (by simp[hk])
    .rcases a8t.1 hk with hk|hk
     .rcases a8t.1 hk with hk|hk
      .exact .inl (by simp[hk])
      .exact .inr (GI h (o3 k hk))
     .exact .inl (by simp[hk]))
   exact Ca aW k1 k2
 case h_5 T l cc aW =>
  split at hq;case h_2=>cases hq
  case h_1 d τ b e hd hT =>
  split at hq;case h_2=>cases hq
  case h_1 dk =>
  have a6p:d<50\/100<=d:=by
   simp only[a8I,a9O] at dk;rcases dk.2 with q|q
   .exact .inl (by simpa [Nat.blt_eq] using q)
   .exact .inr (a9w q)
  split at hq;case h_2=>cases hq
  case h_1 n m hn hm =>
  simp only[a8r,a8u] at hq;obtain⟨rfl,rfl⟩:=hq;have hl:=aR h l;have hc:=aR h cc;rw[hn] at hl;rw[hm] at hc;obtain⟨hl,_⟩:=hl;obtain⟨hc,_⟩:=hc;simp only[a8x,a8T] at hl hc;obtain⟨v1,v2,v3,v4⟩:=Km dO;obtain⟨h1,_,i,z,h3,h4,h5,h6,h7⟩:=hE.slice hT;have hzo:=a1h (c:=c) (G:=G) (s:=s) (w:=w.alloc (.cells (madeCells z.cells (m.toNat * i.size)) e)) h7;have Xa:=Ow.length _ hzo;rw[Ty.cg,a9k] at Xa;have hr:=run_make (P:=c.P) w T e i z h1 h3 h6 .i64 .i64 n m v1 v2 (by rw[h5];omega) (by omega);have hI:=aV.alloc (IC h d) (.cells (madeCells z.cells (m.toNat * i.size)) e);have oJ:(s.gone d).af d=none:=by rw[yQ,a8A rfl]
  obtain⟨r1,r2⟩:=hI.NO oJ;have eG:bG (w.alloc (.cells (madeCells z.cells (m.toNat * i.size)) e)) ((List.replicate n.toNat τ.zero).map τ.aD) (madeCells z.cells (m.toNat * i.size)).toList []:=by
   rw[b2G];have hle:n.toNat * z.cells.size<=m.toNat * i.size:=by rw[h4,Xa];exact a9X _ (by omega)
   have:=bG.more _ ((madeCells z.cells (m.toNat * i.size)).toList.drop (n.toNat * z.cells.size)) (DW hzo n.toNat);rwa [<-zR _ _ _ hle,a9Q] at this
  have Sq:gG (w.alloc (.cells (madeCells z.cells (m.toNat * i.size)) e)) (.tuple (.slice (some ⟨w.heap.size,0,none⟩) n.toNat m.toNat::(madeCells z.cells (m.toNat * i.size)).toList).toArray) τ (List.replicate n.toNat τ.zero) [w.heap.size] :=
   ⟨_,_,some ⟨w.heap.size,0,none⟩,m.toNat,rfl,by simp,by simp;omega,by simp only[maxLen];omega,by simp;omega, .inr ⟨w.heap.size,[],e,rfl,rfl,by simpa using heap_alloc_new w (.cells (madeCells z.cells (m.toNat * i.size)) e),by simp[madeCells,h4],eG⟩⟩
  have hN:=hI.NK d τ (List.replicate n.toNat τ.zero) _ [w.heap.size] oJ r1 r2 (by
   cases hr:c.R d with
   | none=>rfl
   | some v =>
    have h1:=h.fN d v hr;rcases a6p with q|q
    .exact absurd h1.1 (Nat.not_le.2 q)
    .exact absurd h1.2 (Nat.not_lt.2 q)) Sq (by simp) (λ k hk=>by
   simp only[a8L] at hk;subst hk;have hg:=IC h d;refine⟨.inl h.aE.size,λ hs=>b1h _ (h.dH _ hs),by simp,λ i o bV tA=>?_,λ j iS kG hj mj=>?_⟩
   .exact b1h _ (hg.place i o _ bV tA).2.2
   .exact b1h _ (hg.aM.pl j iS kG _ hj mj).2.2.1)
  unfold Oper.wp;have cz:(execOp a.eval o).run c.P w = .ok (.value (.slice (some ⟨w.heap.size,0,none⟩) n.toNat m.toNat)) (w.alloc (.cells (madeCells z.cells (m.toNat * i.size)) e)):=by
   simp only[execOp,aW,hl,hc,a8N,hr,a8J,a8O]
  rw[cz];have key:=aV.put (d:=some d) (v := .aA d) (x := .slice (some ⟨w.heap.size,0,none⟩) n.toNat m.toNat) hN ⟨by simp[cS],_,by simp;rfl,_,_,_,rfl⟩;have bO:ag.af { aw:=(s.gone d).aw.set d (.aA d),aC:=(d, .aA τ (List.replicate n.toNat τ.zero))::(s.gone d).aC }=λ i=>if i=d then some (.aA τ (List.replicate n.toNat τ.zero)) else (s.gone d).af i:=by
   funext i;exact de _ _ _ _
  have conv:∀ G',aV c G' (iu (s.gone d).aw.length (s.gone d).sl (some d) (.aA d)) (s.gone d).aw.length (λ i=>if i=d then some (.aA τ (List.replicate n.toNat τ.zero)) else (s.gone d).af i) (a.put (some d) (.slice (some ⟨w.heap.size,0,none⟩) n.toNat m.toNat)) (w.alloc (.cells (madeCells z.cells (m.toNat * i.size)) e))->Inv c G' { aw:=(s.gone d).aw.set d (.aA d),aC:=(d, .aA τ (List.replicate n.toNat τ.zero))::(s.gone d).aC } (a.put o.dst (.slice (some ⟨w.heap.size,0,none⟩) n.toNat m.toNat)) (w.alloc (.cells (madeCells z.cells (m.toNat * i.size)) e)):=by
   intro G' hh;unfold Inv;rw[bO,hd,show ag.sl { aw:=(s.gone d).aw.set d (.aA d),aC:=(d, .aA τ (List.replicate n.toNat τ.zero))::(s.gone d).aC }=iu (s.gone d).aw.length (s.gone d).sl (some d) (.aA d) from nJ _ d _ _,
    show ({ aw:=(s.gone d).aw.set d (.aA d),aC:=(d, .aA τ (List.replicate n.toNat τ.zero))::(s.gone d).aC }:ag).aw.length=(s.gone d).aw.length from by simp]
   exact hh
  exact⟨_,conv _ key⟩
 case h_6 cl aW =>
  split at hq;case h_1 fJ =>
   split at hq;case h_2=>cases hq
   case h_1 T id MQ Br =>
   split at hq;case h_2=>cases hq
   case h_1 t r _ τ xs hT aL =>
   simp only[a8r,a8u] at hq;obtain⟨rfl,rfl⟩:=hq;have dJ:=aI.jr (aR h) cl.args.toList;rw[Br] at dJ;match jG:cl.args.toList.map a.eval,dJ with
   | [x],dJ =>
    obtain⟨_,l,eP,ad,m,cap,Aw⟩:=dJ.1;have hm:m=xs.length/\xs.length<=140737488355328:=by
     obtain⟨v0,l0,a1,Po,q1,q2,_,_,q5,_⟩:=h.aM.tr id τ xs aL;rw[eP,Aw] at q1;simp only[a9T] at q1;have q1:(Value.slice ad m cap::l)=v0::l0:=congrArg Array.toList q1;simp only[a8x] at q1;rw[q2] at q1;simp only[b0b] at q1;exact⟨q1.1.2.1,q5⟩
    obtain⟨rfl,hmx⟩:=hm;have G5:cl.argTypes = #[T]:=by rw[<-a9o (xs:=cl.argTypes),MQ]
    have Bs:cl.args.map a.eval = #[x]:=by rw[<-a9o (xs:=cl.args.map a.eval),b0i,jG]
    have MW:(execOp a.eval o)=(do let d <-resolve a.eval cl o.type;invoke d.target d.args):=by simp[execOp,aW]
    have Ha:(execOp a.eval o).run c.P w=((Builtin.len_ #[T] o.type #[x]).run c.P w).andThen λ v w => .ok (.value v) w:=by
     rw[MW];simp[resolve,fJ,invoke,builtin,G5,Bs]
    obtain⟨k1,_,_⟩:=hE.slice hT;have OG:∃ q,c.P.elem T=q/\c.P.underlying T=some (.slice q):=⟨_,by simp[Program.elem,k1],k1⟩;obtain⟨q,OG,k1⟩:=OG;refine x7 h (x := .int .i64 xs.length) ?_ (a1Z ⟨by omega,by omega⟩);rw[Ha,Aw,run_len_slice w T o.type ad xs.length cap (by rw[OG];exact k1)];rfl
  case h_2 f fJ =>
   split at hq;case h_2=>cases hq
   case h_1 d hd =>
   split at hq;case h_2=>cases hq
   split at hq;case h_1 m hm =>
    cases hq
   case h_2 hm =>
    split at hq;case h_2=>cases hq
    case h_1 Z9 has =>
    split at hq;case h_2=>cases hq
    case h_1 pre res hc =>
    split at hq;case h_2=>cases hq
    case h_1 hb =>
    simp only[Option.some.injEq,Prod.mk.injEq] at hq;obtain⟨rfl,rfl⟩:=hq;simp only[Bool.and_eq_true,List.all_eq_true] at hb;exact NU hE h has (aI.jr (aR h) cl.args.toList) hc dO hd (λ p hp=>by simpa using hb.1 p hp) (cZ hb.2) (by omega) (λ qB=>hJ aW fJ rfl qB)
  case h_3=>cases hq
 case h_7=>cases hq
end
section
variable {w:World}
theorem bG.join{n:Nat}:∀ (ds:List D) {l:List Value} {fp:List Nat},bG w ds l fp->(∀ d∈ds,d.size=n) ->
  ds.length * n<=l.length/\∀ (es:List D) (m:List Value) (f2:List Nat),bG w es m f2->bG w (ds++es) (l.take (ds.length * n)++m) (fp++f2)
 | [],l,fp,h,_=>by
  have h:fp=[]:=h;subst h;exact⟨by simp,λ es m f2 k=>by simpa using k⟩
 | d::ds,l,fp,h,hn=>by
  obtain⟨c,r,f1,f2,rfl,rfl,h3,h4⟩:=h;have hc:c.length=n:=by rw[Ow.length d h3];exact hn d (by simp)
  obtain⟨k1,k2⟩:=bG.join ds h4 λ d hd=>hn d (by simp[hd]);have e:(d::ds).length * n=c.length+ds.length * n:=by rw[a8F,a9u,hc];omega
  refine⟨by rw[e,a8E];omega,λ es m f3 k=>?_⟩;refine⟨c,r.take (ds.length * n)++m,f1,f2++f3,?_,by simp,h3,k2 es m f3 k⟩;rw[e,wT,a8Y]
theorem bG.rdL{n:Nat}:∀ (ds:List D) {l:List Value} {fp:List Nat},bG w ds l fp->(∀ d∈ds,d.size=n)->cP w (λ _=>True) ds (l.take (ds.length * n))
 | [],l,fp,h,_=>by simp[cP]
 | d::ds,l,fp,h,hn=>by
  obtain⟨c,r,f1,f2,rfl,rfl,h3,h4⟩:=h;have hc:c.length=n:=by rw[Ow.length d h3];exact hn d (by simp)
  have e:(d::ds).length * n=c.length+ds.length * n:=by rw[a8F,a9u,hc];omega
  exact⟨c,r.take (ds.length * n),by rw[e,wT],Ow.rd d h3 λ _ _=>trivial,bG.rdL ds h4 λ d hd=>hn d (by simp[hd])⟩
theorem Fo{τ:Ty}(xs:List τ.den):∀ d∈xs.map τ.aD,d.size=τ.size:=by
 intro d hd;obtain⟨z,_,rfl⟩:=a8w.1 hd;exact Ty.cg τ z
theorem J5{g k:Nat}{l:List Value}{t:TypeId}(h:w.heap[g]?=some (.cells l.toArray t (0,0))):∀ j v,(l.take k)[j]?=some v->w.cell? ((⟨g,0,none⟩:Addr).add j)=some v:=by
 intro j v hj;rw[Addr.add_lit];have:=AS (w:=w) (b:=g) (p:=[]) (c:=l.take k) (r:=l.drop k) (t:=t) (by simpa using h) j v hj;simpa using this
theorem HS{P:Program}(t ty e:TypeId)(i:TypeInfo)(ht:P.underlying t=some (.slice e))(hi:P.info? e=some i)
  (g N9 a0l:Nat) (cur:Array Value) (t2:TypeId) (hg:w.heap[g]?=some (.cells cur t2 (0,0)))
  (a:Addr) (m c:Nat) (news:List Value) (hl:news.length=m * i.size) (yJ:∀ j u,news[j]?=some u->w.cell? (a.add j)=some u) (h1:∀ u∈news,u.oneCell'=true)
  (yM:N9+m<=a0l) (Bn:N9 * i.size+news.length<=cur.size) :
  (Builtin.append_ #[t,t] ty #[.slice (some ⟨g,0,none⟩) N9 a0l, .slice (some a) m c]).run P w =
   .ok (.slice (some ⟨g,0,none⟩) (N9+m) a0l) (w.setRow g (cur.toList.take (N9 * i.size)++news++cur.toList.drop (N9 * i.size+news.length)).toArray):=by
 have hf:=run_firstCells_some (P:=P) w i.size m a m c news hl yJ;have bQ:=run_storeCells_at P g (N9 * i.size) t2 news 0 cur w hg (by simpa using Bn) h1;simp only[Nat.add_zero] at bQ;simp[Builtin.append_,run_underlying ht,sizeOf,typeInfo,hi,Builtin.lenOf,yM,hf,Addr.add_lit,bQ]
theorem PC{τ:Ty}{zs:List τ.den}{q:List Value}{fp:List Nat}{z:Array Value}{cap:Nat}{e:TypeId}(hq:bG w (zs.map τ.aD) q fp)(hql:q.length=zs.length * τ.size)(IS:z.size=τ.size)
  (hc:zs.length<=cap) (hm:cap<=maxLen) (h47:zs.length<=140737488355328) (bm:∀ b∈fp,b<w.heap.size) :
  gG (w.drew.alloc (.cells (q.toArray++Builtin.zeroCells z (cap - zs.length)) e)) (.tuple (.slice (some ⟨w.heap.size,0,none⟩) zs.length cap::(q.toArray++Builtin.zeroCells z (cap - zs.length)).toList).toArray) τ zs (w.heap.size::fp):=by
 refine⟨_,_,some ⟨w.heap.size,0,none⟩,cap,rfl,rfl,hc,hm,h47, .inr ⟨w.heap.size,fp,e,rfl,rfl,?_,?_,?_⟩⟩
 .rw[a9o];exact a9N w.drew _
 .simp only[b2B,a8E,hql,a9k,size_zeroCells,IS];rw[<-a9u];congr 1;omega
 .rw[b2B];have hk:∀ b∈fp,(w.drew.alloc (.cells (q.toArray++Builtin.zeroCells z (cap - zs.length)) e)).heap[b]?=w.heap[b]?:=λ b hb=>heap_alloc_old w.drew _ b (bm b hb);have:=bG.aE _ hq hk;have more:∀ (ds:List D) {l:List Value} {f:List Nat} (m:List Value),bG (w.drew.alloc (.cells (q.toArray++Builtin.zeroCells z (cap - zs.length)) e)) ds l f->bG (w.drew.alloc (.cells (q.toArray++Builtin.zeroCells z (cap - zs.length)) e)) ds (l++m) f:=by
   intro ds;induction ds with
   | nil=>intro l f m h;exact h
   | cons d ds ih =>
    intro l f m h;obtain⟨cc,r,f1,f2,rfl,hf,h3,h4⟩:=h;exact⟨cc,r++m,f1,f2,by simp,hf,h3,ih m h4⟩
  exact more _ _ this
end
section
variable {c:Ctx} {G:Gh} {sl:Nat->AV} {n:Nat} {lk:Nat->Option au} {a:Act} {w w':World}
theorem Qd(hE:bu c.P c.E){T:TypeId}{τ:Ty}{b e:Nat}(hT:af c.E.ty T=some (.slice τ,b,e)){xs ys:List τ.den}{x y:Value}{fx fy:List Nat}
  (hx:Ow w (.slice τ.size (xs.map τ.aD)) [x] fx) (hy:Ow w (.slice τ.size (ys.map τ.aD)) [y] fy) (hlx:∀ k∈fx,k<w.heap.size) (hly:∀ k∈fy,k<w.heap.size) (ux:fx.Nodup) (hny:fy.Nodup) (hd:∀ k∈fx,k∉fy)
  (yM:aX (xs.length+ys.length) b) (ty:TypeId) :
  ∃ v' w' fp l,(Builtin.append_ #[T,T] ty #[x,y]).run c.P w = .ok v' w'/\gG w' (.tuple (v'::l).toArray) τ (xs++ys) fp/\(∃ a n m,v' = .slice a n m)/\fp.Nodup/\(∀ k∈fp,k∈fx\/k∈fy\/(w.heap.size<=k/\k<w'.heap.size))/\bH (λ k=>k∈fx) w w':=by
 obtain⟨k1,⟨b',e',k2⟩,i,zv,k3,k4,k5,k6,k7⟩:=hE.slice hT;have IS:zv.cells.size=τ.size:=by
  have:=Rd.length _ (Ie (w:=w) (S:=λ _=>True) k7);rwa [Ty.cg,a9k] at this
 have Hf:=τ.size_pos;have OL:(xs.length+ys.length) * b<=140737488355328/\xs.length+ys.length<=140737488355328:=by
  unfold aX at yM;rw[Nat.mul_add,Nat.mul_one] at yM;omega
 have He:xs.length+ys.length<=maxLen:=by simp only[maxLen];omega
 obtain⟨lx,hxT,_⟩:=gG.Z5 hx;have W9:=hx;obtain⟨ax,DG,x1,x2,x3,x4,x5⟩:=hx;obtain⟨ay,R2,y1,y2,y3,y4,y5⟩:=hy;simp only[a8x,a8T,a8W] at x1 x2 x4 y1 y2 y4;subst x1 y1;have same:(Builtin.append_ #[T,T] ty #[.slice ax xs.length DG, .slice ay ys.length R2]).run c.P w = .ok (.slice ax xs.length DG) w->ys=[]->∃ v' w' fp l,(Builtin.append_ #[T,T] ty #[.slice ax xs.length DG, .slice ay ys.length R2]).run c.P w = .ok v' w'/\gG w' (.tuple (v'::l).toArray) τ (xs++ys) fp/\(∃ a n m,v' = .slice a n m)/\fp.Nodup/\(∀ k∈fp,k∈fx\/k∈fy\/(w.heap.size<=k/\k<w'.heap.size))/\bH (λ k=>k∈fx) w w':=by
  intro hr he;subst he;exact⟨_,w,fx,lx,hr,by simpa using hxT,⟨_,_,_,rfl⟩,ux,λ k hk => .inl hk,bH.refl _ _⟩
 rcases y5 with ⟨q1,⟨q2,q3⟩,q4⟩|⟨gy,f2,l2,t2,q1,q2,q3,q4,q5⟩
 .have Ds:ys=[]:=by simpa using q1
  subst Ds;refine same ?_ rfl;subst q2;simp[Builtin.append_,a9g k1,sizeOf,typeInfo,k3,Builtin.lenOf,Builtin.firstCells,x2,storeCells];cases ax<;>rfl
 .subst q1 q2;have hsy:=Fo ys;obtain⟨j1,_⟩:=bG.join _ q5 hsy;rw[a8W] at j1;have yK:(l2.take (ys.length * τ.size)).length=ys.length * τ.size:=by rw[a9t];omega
  have tD:∀ u∈l2.take (ys.length * τ.size),u.oneCell'=true:=by
   have:=bG.rdL _ q5 hsy;rw[a8W] at this;exact cP.gX this
  have yJ:=J5 (w:=w) (k:=ys.length * τ.size) q3;have Zw:bG w (ys.map τ.aD) (l2.take (ys.length * τ.size)) f2:=by
   have:=(bG.join _ q5 hsy).2 [] [] [] rfl;simpa using this
  rcases x5 with ⟨p1,⟨p2,p3⟩,p4⟩|⟨gx,f1,l1,t1,p1,p2,p3,p4,p5⟩
  .have jG:xs=[]:=by simpa using p1
   subst jG p2 p3 p4;by_cases hm:ys=[]
   .refine same ?_ hm;subst hm;simp[Builtin.append_,a9g k1,sizeOf,typeInfo,k3,Builtin.lenOf,Builtin.firstCells,loadCells,loadCellsFrom]
   .have hm0:0<ys.length:=List.length_pos_iff.2 hm;have hr:=run_append_nil (P:=c.P) w T ty e i zv k1 k3 k6 ⟨gy,0,none⟩ ys.length R2 (l2.take (ys.length * τ.size)) (by rw[yK,k4]) yJ hm0 (by omega) (by rw[k5];have:=OL.1;simp only[List.length_nil,Nat.zero_add] at this;omega);have hg:=PC (w:=w) (e:=e) (zs:=ys) (cap:=grownCap w ys.length 0 e) Zw yK IS (grownCap_ge w ys.length 0 e) (grownCap_le_maxLen w ys.length 0 e (by simpa using He)) (by omega) (λ k hk=>hly k (by simp[hk]));refine⟨.slice (some ⟨w.heap.size,0,none⟩) ys.length (grownCap w ys.length 0 e),w.drew.alloc (.cells ((l2.take (ys.length * τ.size)).toArray++Builtin.zeroCells zv.cells (grownCap w ys.length 0 e - ys.length)) e),w.heap.size::f2,_,hr,hg,⟨_,_,_,rfl⟩,?_,?_,⟨rfl,rfl,rfl,by simp,λ k hk _=>heap_alloc_old w.drew _ k hk⟩⟩
    .rw[a8V] at hny ⊢;exact⟨λ hh=>b1h _ (hly _ (by simp[hh])),hny.2⟩
    .intro k hk;rcases a8G.1 hk with rfl|hk
     .exact .inr (.inr ⟨a8C _,by simp⟩)
     .exact .inr (.inl (by simp[hk]))
  .subst p1 p2;have hsx:=Fo xs;obtain⟨i1,i2⟩:=bG.join _ p5 hsx;rw[a8W] at i1 i2;have ns:(l1.take (xs.length * τ.size)).length=xs.length * τ.size:=by rw[a9t];omega
   have M0:(f1++f2).Nodup/\gx∉f1++f2:=by
    rw[a8V] at ux hny;refine⟨a8M.2 ⟨ux.2,hny.2,λ k hk k' fe e=>?_⟩,λ hh=>?_⟩
    .subst e;exact hd k (by simp[hk]) (by simp[fe])
    .rcases a8t.1 hh with hh|hh
     .exact ux.1 hh
     .exact hd gx (by simp) (by simp[hh])
   have eG:=i2 (ys.map τ.aD) _ f2 Zw;rw[<-a9F] at eG;by_cases Bn:xs.length+ys.length<=DG
   .have iY:xs.length * i.size+(l2.take (ys.length * τ.size)).length<=l1.toArray.size:=by
     rw[yK,k4,<-a9u,b1O,p4];exact a9X _ Bn
    have hr:=HS (P:=c.P) (w:=w) T ty e i k1 k3 gx xs.length DG l1.toArray t1 p3 ⟨gy,0,none⟩ ys.length R2 (l2.take (ys.length * τ.size)) (by rw[yK,k4]) yJ tD Bn iY;have iA:∀ k,k≠gx->(w.setRow gx (l1.toArray.toList.take (xs.length * i.size)++l2.take (ys.length * τ.size)++l1.toArray.toList.drop (xs.length * i.size+(l2.take (ys.length * τ.size)).length)).toArray).heap[k]?=w.heap[k]?:=λ k hk=>kc w p3 k hk;refine⟨_,_,gx::(f1++f2),(l1.take (xs.length * τ.size)++l2.take (ys.length * τ.size)++l1.drop (xs.length * τ.size+ys.length * τ.size)),hr,?_,⟨_,_,_,rfl⟩,a8V.2 ⟨M0.2,M0.1⟩,?_,⟨rfl,rfl,rfl,by simp[World.setRow],λ k hk dh=>iA k λ e=>dh (by simp[e])⟩⟩
    .refine⟨_,_,some ⟨gx,0,none⟩,DG,rfl,by simp,by simpa using Bn,x3,by simp;omega, .inr ⟨gx,f1++f2,t1,rfl,rfl,?_,?_,?_⟩⟩
     .have:=b2K w gx l1.toArray (l1.toArray.toList.take (xs.length * i.size)++l2.take (ys.length * τ.size)++l1.toArray.toList.drop (xs.length * i.size+(l2.take (ys.length * τ.size)).length)).toArray t1 (0,0) p3;rw[this,yK,k4]
     .simp only[a8E,ns,yK,a9C,p4];have:xs.length * τ.size+ys.length * τ.size<=DG * τ.size:=by rw[<-a9u];exact a9X _ Bn
      omega
     .have hk:∀ k∈f1++f2,(w.setRow gx (l1.toArray.toList.take (xs.length * i.size)++l2.take (ys.length * τ.size)++l1.toArray.toList.drop (xs.length * i.size+(l2.take (ys.length * τ.size)).length)).toArray).heap[k]?=w.heap[k]?:=λ k hk=>iA k λ e=>M0.2 (e ▸ hk);have h2:=bG.aE _ eG hk;have more:∀ (w2:World) (ds:List D) {l:List Value} {f:List Nat} (m:List Value),bG w2 ds l f->bG w2 ds (l++m) f:=by
       intro w2 ds;induction ds with
       | nil=>intro l f m h;exact h
       | cons d ds ih =>
        intro l f m h;obtain⟨cc,r,f1,f2,rfl,hf,h3,h4⟩:=h;exact⟨cc,r++m,f1,f2,by simp,hf,h3,ih m h4⟩
      exact more _ _ _ h2
    .intro k hk;rcases a8G.1 hk with rfl|hk
     .exact .inl (by simp)
     .rcases a8t.1 hk with hk|hk
      .exact .inl (by simp[hk])
      .exact .inr (.inl (by simp[hk]))
   .have hr:=run_append_grow (P:=c.P) w T ty e i zv k1 k3 k6 ⟨gx,0,none⟩ xs.length DG (l1.take (xs.length * τ.size)) (by rw[ns,k4]) (J5 p3) ⟨gy,0,none⟩ ys.length R2 (l2.take (ys.length * τ.size)) (by rw[yK,k4]) yJ (by omega) (by omega) (by rw[k5];exact growslice_fits (by omega) OL.1);have hql:(l1.take (xs.length * τ.size)++l2.take (ys.length * τ.size)).length=(xs++ys).length * τ.size:=by rw[a8E,ns,yK,a8E,a9u]
    have hle:(xs++ys).length=xs.length+ys.length:=a8E;have bm:∀ k∈f1++f2,k<w.heap.size:=λ k hk=>by
     rcases a8t.1 hk with hk|hk
     .exact hlx k (by simp[hk])
     .exact hly k (by simp[hk])
    have hg:=PC (w:=w) (e:=e) (zs:=xs++ys) (cap:=grownCap w (xs.length+ys.length) DG e) eG hql IS (by rw[hle];exact grownCap_ge w _ _ e) (grownCap_le_maxLen w _ _ e He) (by omega) bm;rw[hle] at hg;refine⟨_,w.drew.alloc (.cells ((l1.take (xs.length * τ.size)).toArray++(l2.take (ys.length * τ.size)).toArray++Builtin.zeroCells zv.cells (grownCap w (xs.length+ys.length) DG e - (xs.length+ys.length))) e),w.heap.size::(f1++f2),_,hr,by simpa [hle] using hg,⟨_,_,_,rfl⟩,?_,?_,⟨rfl,rfl,rfl,by simp,λ k hk _=>heap_alloc_old w.drew _ k hk⟩⟩
    .exact a8V.2 ⟨λ hh=>b1h _ (bm _ hh),M0.1⟩
    .intro k hk;rcases a8G.1 hk with rfl|hk
     .exact .inr (.inr ⟨a8C _,by simp⟩)
     .rcases a8t.1 hk with hk|hk
      .exact .inl (by simp[hk])
      .exact .inr (.inl (by simp[hk]))
end
section
variable {c:Ctx} {G:Gh} {s:ag} {a:Act} {w w':World}
theorem Inv.built(h:Inv c G s a w){ids:List Nat}{d:Nat}{τ:Ty}{zs:List τ.den}{fp:List Nat}{v':Value}{l:List Value}(hk:bH (λ b=>uq G s.af ids b) w w')(hT:gG w' (.tuple (v'::l).toArray) τ zs fp)
  (hv:∃ a n m,v' = .slice a n m) (cX:fp.Nodup) (nP:∀ b∈fp,uq G s.af ids b\/(w.heap.size<=b/\b<w'.heap.size)) (oJ:(ids.foldl ag.gone s).af (bD d)=none) :
  ∃ G',Inv c G' ((ids.foldl ag.gone s).pB d τ zs) (a.put (some d) v') w':=by
 have h1:Inv c G (ids.foldl ag.gone s) a w:=tl ids h;have hF:∀ b,uq G s.af ids b->sw c G (ids.foldl ag.gone s).af w b:=λ b hb=>GI h hb;generalize UU:ids.foldl ag.gone s=s1 at *
 have hblk:∀ b,b<w.heap.size->¬ uq G s.af ids b->w'.heap[b]?=w.heap[b]?:=λ b hb hn=>hk.block b hb hn;have h2:aV c G s1.sl s1.aw.length s1.af a w':=by
  refine aV.world (S':=G.S) h1 ⟨hk.os,hk.tape,hk.output,hk.size,λ b hb hn=>hblk b hb λ hi=>hn (hF b hi).1⟩ (λ _ h=>h) (λ _ _=>b0G) h1.sX (λ b hb=>a8B (h1.dH b hb) hk.size) ?_ ?_ ?_
  .intro b hb;rcases hb with hb|hb
   .exact hblk b (h1.dH b hb) λ hi=>(hF b hi).2.1 hb
   .exact hblk b (a8B hb.1 h1.aE.size) λ hi=>(hF b hi).1.elim (λ q=>by omega) hb.2.1
  .intro id o b ho hb;exact hblk b (h1.place id o b ho hb).2.2 λ hi=>(hF b hi).2.2.2.1 id o ho hb
  .intro id aO cI b ht hb;exact hblk b (h1.aM.pl id aO cI b ht hb).2.2.1 λ hi=>(hF b hi).2.2.2.2 id aO cI ht hb
 obtain⟨r1,r2⟩:=h2.NO oJ;have hR:c.R (bD d)=none:=by
  cases hr:c.R (bD d) with
  | none=>rfl
  | some v=>have:=(h.fN _ v hr).2;unfold bD at this;omega
 have h3:=h2.NK (bD d) τ zs _ fp oJ r1 r2 hR hT cX (λ b hb=>by
  rcases nP b hb with hi|⟨q1,q2⟩
  .obtain⟨f1,f2,f3,f4,f5⟩:=hF b hi;exact⟨f1,f2,a8B f3 hk.size,f4,f5⟩
  .refine⟨.inl (a9v h1.aE.size q1),λ hs=>?_,q2,λ i o bV tA=>?_,λ j iS kG hj mj=>?_⟩
   .have:=h1.dH b hs;omega
   .have:=(h1.place i o b bV tA).2.2;omega
   .have:=(h1.aM.pl j iS kG b hj mj).2.2.1;omega)
 have key:=aV.put (d:=some d) (v := .aA (bD d)) (x:=v') h3 ⟨by simp[cS],l,by simp,hv⟩;have bO:(s1.pB d τ zs).af=λ i=>if i=bD d then some (.aA τ zs) else s1.af i:=by
  funext i;exact de _ _ _ _
 have conv:∀ G',aV c G' (iu s1.aw.length s1.sl (some d) (.aA (bD d))) s1.aw.length (λ i=>if i=bD d then some (.aA τ zs) else s1.af i) (a.put (some d) v') w'->Inv c G' (s1.pB d τ zs) (a.put (some d) v') w':=by
  intro G' hh;unfold Inv;rw[bO,show (s1.pB d τ zs).sl=iu s1.aw.length s1.sl (some d) (.aA (bD d)) from nJ _ d _ _,show (s1.pB d τ zs).aw.length=s1.aw.length from by simp[ag.pB]];exact hh
 exact⟨_,conv _ key⟩
theorem Inv.over{s1:ag}{X:Nat->Prop}(h1:Inv c G s1 a w)(hF:∀ b,X b->sw c G s1.af w b)(hk:bH X w w'):aV c G s1.sl s1.aw.length s1.af a w':=by
 have hblk:∀ b,b<w.heap.size->¬ X b->w'.heap[b]?=w.heap[b]?:=λ b hb hn=>hk.block b hb hn;refine aV.world (S':=G.S) h1 ⟨hk.os,hk.tape,hk.output,hk.size,λ b hb hn=>hblk b hb λ hi=>hn (hF b hi).1⟩ (λ _ h=>h) (λ _ _=>b0G) h1.sX (λ b hb=>a8B (h1.dH b hb) hk.size) ?_ ?_ ?_
 .intro b hb;rcases hb with hb|hb
  .exact hblk b (h1.dH b hb) λ hi=>(hF b hi).2.1 hb
  .exact hblk b (a8B hb.1 h1.aE.size) λ hi=>(hF b hi).1.elim (λ q=>by omega) hb.2.1
 .intro id o b ho hb;exact hblk b (h1.place id o b ho hb).2.2 λ hi=>(hF b hi).2.2.2.1 id o ho hb
 .intro id aO cI b ht hb;exact hblk b (h1.aM.pl id aO cI b ht hb).2.2.1 λ hi=>(hF b hi).2.2.2.2 id aO cI ht hb
theorem sw.a1U{lk:Nat->Option au}{b:Nat}(h:sw c G lk w b):¬ SX G lk b:=by
 rintro (hb|⟨id,e,τ,ys,aL,hb⟩|⟨id,τ,ys,aL,hb⟩)
 .exact h.2.1 hb
 .exact h.2.2.2.1 id _ aL hb
 .exact h.2.2.2.2 id τ ys aL hb
theorem ui(h:Inv c G s a w):∀ {fl:List Bool} {Ts:List TypeId} {vs:List AV} {xs:List Value} {own:List (Option TV)} {ids:List Nat},fC c.E s.af fl Ts vs=some (own,ids)->ids.Nodup->aI (VR c G s.af w) vs xs ->
  ∃ wE:List (List Nat),aI (λ (o:Option TV) (q:Value×List Nat)=>match o with
   | some v=>Ah w v q.1 q.2
   | none=>q.2=[]) own (xs.zip wE)/\wE.length=xs.length/\wE.flatten.Nodup/\∀ b∈wE.flatten,uq G s.af ids b
 | [],[],[],[],own,ids,ht,_,_=>by
  simp only[fC,a8r,a8u] at ht;obtain⟨rfl,rfl⟩:=ht;exact⟨[],ae,rfl,by simp,by simp⟩
 | true::fl,T::Ts,v::vs,x::xs,own,ids,ht,hn,hv=>by
  simp only[fC] at ht;split at ht;case h_2=>cases ht
  case h_1 τ q hT =>
  split at ht;case h_2=>cases ht
  case h_1 y i hy =>
  split at ht;case h_2=>cases ht
  case h_1 r j hr =>
  simp only[a8r,a8u] at ht;obtain⟨rfl,rfl⟩:=ht;rw[a8M] at hn;obtain⟨n1,n2,n3⟩:=hn;obtain⟨f1,o1,o2,o3⟩:=pR h hy hv.1 n1;obtain⟨wE,p1,p2,p3,p4⟩:=ui h hr n2 hv.2;refine⟨f1::wE,⟨o1,p1⟩,by simp[p2],?_,?_⟩
  .rw[List.flatten_cons];exact dQ o2 p3 λ b hb cq=>h.iB (o3 b hb) (p4 b cq) (λ x hx y hy=>n3 x hx y hy)
  .intro b hb;rw[List.flatten_cons] at hb;rcases a8t.1 hb with hb|hb
   .exact (o3 b hb).mono λ i hi=>by simp[hi]
   .exact (p4 b hb).mono λ i hi=>by simp[hi]
 | false::fl,T::Ts,v::vs,x::xs,own,ids,ht,hn,hv=>by
  simp only[fC] at ht;split at ht;case h_2=>cases ht
  case h_1 r j hr =>
  simp only[Option.some.injEq,Prod.mk.injEq] at ht;obtain⟨rfl,rfl⟩:=ht;obtain⟨wE,p1,p2,p3,p4⟩:=ui h hr hn hv.2;exact⟨[]::wE,⟨rfl,p1⟩,by simp[p2],by simpa using p3,by simpa using p4⟩
 | [],_::_,_,_,_,_,ht,_,_=>by simp[fC] at ht
 | [],[],_::_,_,_,_,ht,_,_=>by simp[fC] at ht
 | [],[],[],_::_,_,_,_,_,hv=>hv.elim
 | true::_,[],_,_,_,_,ht,_,_=>by simp[fC] at ht
 | false::_,[],_,_,_,_,ht,_,_=>by simp[fC] at ht
 | true::_,_::_,[],_,_,_,ht,_,_=>by simp[fC] at ht
 | false::_,_::_,[],_,_,_,ht,_,_=>by simp[fC] at ht
 | _,_,_::_,[],_,_,_,_,hv=>hv.elim
theorem qS(hE:bu c.P c.E)(h:Inv c G s a w):∀ {own:List (Option TV)} {Ts:List TypeId} {vs:List AV} {xs:List Value} {wE:List (List Nat)} {Z9:List Arg},eD c.E s.af own Ts vs=some Z9 ->
  aI (λ (o:Option TV) (q:Value×List Nat)=>match o with
   | some v=>Ah w v q.1 q.2
   | none=>q.2=[]) own (xs.zip wE)->wE.length=xs.length->aI (VR c G s.af w) vs xs->pT c.P w (SX G s.af) Z9 xs wE.flatten/\∀ a∈Z9,a.FC=true
 | [],[],[],[],wE,Z9,hm,hO,hl,hv=>by
  simp only[eD,Option.some.injEq] at hm;subst hm;have:wE=[]:=List.eq_nil_of_length_eq_zero (by simpa using hl);subst this;exact⟨rfl,by simp⟩
 | some y::own,T::Ts,v::vs,x::xs,f::wE,Z9,hm,hO,hl,hv=>by
  simp only[eD] at hm;split at hm;case h_2=>cases hm
  case h_1 r hr =>
  simp only[Option.some.injEq] at hm;subst hm;obtain⟨q1,q2⟩:=qS hE h hr hO.2 (by simpa using hl) hv.2;refine⟨⟨f,wE.flatten,by simp,hO.1,q1⟩,λ a ha=>?_⟩;rcases List.mem_cons.1 ha with rfl|ha
  .rfl
  .exact q2 a ha
 | none::own,T::Ts,v::vs,x::xs,f::wE,Z9,hm,hO,hl,hv=>by
  simp only[eD] at hm;split at hm;case h_2=>cases hm
  case h_1 y hy =>
  split at hm;case h_2=>cases hm
  case h_1 r Kg hr =>
  simp only[Option.some.injEq] at hm;subst hm;obtain⟨q1,q2⟩:=qS hE h hr hO.2 (by simpa using hl) hv.2;have hf:f=[]:=hO.1;subst hf;have h1:=fR hE h (λ _ _ h=>h) (λ _ h => .inl h) (λ τ v x y h1 h2=>uI h.aM h.aC (λ _ _ h=>h) h1 h2) (Ts:=[T]) (vs:=[v]) (Z9:=[y]) (xs:=[x]) (by simp only[jP,hy]) ⟨hv.1,ae⟩;refine⟨⟨[],wE.flatten,by simp,?_,q1⟩,λ a ha=>?_⟩
  .have h1:=h1.1;cases y with
   | own v=>exact h1.elim
   | box k=>exact h1.elim
   | _=>exact⟨rfl,h1⟩
  .rcases a8G.1 ha with rfl|ha
   .exact Kg
   .exact q2 a ha
 | [],[],[],_::_,_,_,_,_,_,hv=>hv.elim
 | _,_,_::_,[],_,_,_,_,_,hv=>hv.elim
 | [],_::_,_,_,_,_,hm,_,_,_=>by simp[eD] at hm
 | [],[],_::_,_,_,_,hm,_,_,_=>by simp[eD] at hm
 | some _::_,[],_,_,_,_,hm,_,_,_=>by simp[eD] at hm
 | none::_,[],_,_,_,_,hm,_,_,_=>by simp[eD] at hm
 | some _::_,_::_,[],_,_,_,hm,_,_,_=>by simp[eD] at hm
 | none::_,_::_,[],_,_,_,hm,_,_,_=>by simp[eD] at hm
 | _::_,_::_,_::_,_::_,[],_,_,_,hl,_=>by simp at hl
theorem Oq{lk:Nat->Option au}{τ:Ty}:∀ {ps:List (Nat×AV)} {n:Nat} {xs:List τ.den} {ids:List Nat},Ce lk τ n ps=some (xs,ids)->xs.length=ps.length
 | [],n,xs,ids,h=>by
  simp only[Ce,a8r,a8u] at h;obtain⟨rfl,_⟩:=h;rfl
 | (i,v)::ps,n,xs,ids,h=>by
  simp only[Ce] at h;split at h
  .split at h
   .split at h
    .rename_i q;simp only[a8r,a8u] at h;obtain⟨rfl,_⟩:=h;simp[Oq q]
    .cases h
   .cases h
  .cases h
theorem Kv(h:Inv c G s a w){τ:Ty}{place:Nat->Option (Nat×Nat)}(hp:∀ i,place i=some (i * τ.size,τ.size)) :
  ∀ {ps:List (Nat×AV)} {vs:List (Nat×Value)} {n:Nat} {xs:List τ.den} {ids:List Nat} {l:List Value},Ce s.af τ n ps=some (xs,ids)->aI (λ p q=>p.1=q.1/\VR c G s.af w p.2 q.2) ps vs->ids.Nodup ->
   (n+ps.length) * τ.size=l.length->∃ r fp,Instr.fill place l.toArray vs=some (l.take (n * τ.size)++r).toArray/\bG w (xs.map τ.aD) r fp/\r.length=xs.length * τ.size/\fp.Nodup/\∀ b∈fp,uq G s.af ids b
 | [],[],n,xs,ids,l,h1,_,_,hl=>by
  simp only[Ce,a8r,a8u] at h1;obtain⟨rfl,rfl⟩:=h1;refine⟨[],[],?_,rfl,by simp,a9x,by simp⟩;simp only[a8R,b0m] at hl;rw[hl,List.take_length,a9B];rfl
 | (i,v)::ps,(j,x)::vs,n,xs,ids,l,h1,hv,cX,hl=>by
  obtain⟨⟨nQ,hx⟩,M4⟩:=hv;have nQ:i=j:=nQ;subst nQ;simp only[Ce] at h1;split at h1
  .rename_i ep;have ep:=a8s ep;subst ep;split at h1
   .rename_i y i1 hy;split at h1
    .rename_i ys js Ds;simp only[a8r,a8u] at h1;obtain⟨rfl,rfl⟩:=h1;rw[a8M] at cX;obtain⟨n1,n2,n3⟩:=cX;obtain⟨f1,o1,o2,o3⟩:=pR h hy hx n1;have hr:=Ah.cells o1;have bW:x.cells.size=τ.size:=by
      have:=Ow.length _ hr;rw[Ty.cg] at this;simpa using this
     simp only[a8F] at hl;have Hf:=τ.size_pos;have e1:(i+(ps.length+1)) * τ.size=i * τ.size+τ.size+ps.length * τ.size:=by
      rw[a9u,a9u];omega
     rw[IA place i _ _ x vs l (hp i) bW (by omega)];obtain⟨r,f2,q1,q2,q3,q4,q5⟩:=Kv h hp (l:=l.take (i * τ.size)++x.cells.toList++l.drop (i * τ.size+τ.size)) Ds M4 n2 (by
      simp[bW];rw[show (i+1+ps.length) * τ.size=i * τ.size+τ.size+ps.length * τ.size by rw[a9u,a9u];omega];omega)
     refine⟨x.cells.toList++r,f1++f2,?_,⟨_,_,f1,f2,rfl,rfl,hr,q2⟩,?_,?_,?_⟩
     .rw[q1];congr 2;rw[show (i+1) * τ.size=i * τ.size+τ.size by rw[a9u];omega];have ht:(l.take (i * τ.size)++x.cells.toList).length=i * τ.size+τ.size:=by simp[bW];omega
      rw[<-ht,b0X,a8Y]
     .simp only[a8E,a8F,a9k,bW,q3,a9u];omega
     .exact dQ o2 q4 λ b hb cq=>h.iB (o3 b hb) (q5 b cq) (λ x hx y hy=>n3 x hx y hy)
     .intro b hb;rcases a8t.1 hb with hb|hb
      .exact (o3 b hb).mono λ i hi=>by simp[hi]
      .exact (q5 b hb).mono λ i hi=>by simp[hi]
    .cases h1
   .cases h1
  .cases h1
 | [],_::_,_,_,_,_,_,hv,_,_=>hv.elim
 | _::_,[],_,_,_,_,_,hv,_,_=>hv.elim
theorem bH.ZY{X Y:Nat->Prop}{w w':World}(h:bH X w w')(hXY:∀ b,X b->Y b):bH Y w w':=⟨h.os,h.tape,h.output,h.size,λ b hb hn=>h.block b hb λ hx=>hn (hXY b hx)⟩
theorem Q0(h:Inv c G s a w){ids:List Nat}{b:Nat}(hb:uq G s.af ids b):b<w.heap.size:=(GI h hb).2.2.1
theorem TN{lk:Nat->Option au}{τ:Ty}{v:AV}{r:τ.den×List Nat}(h:eh lk τ v=some r):v.cell=true\/∃ s x,v = .aK ⟨.st s,x⟩:=by
 cases v with
 | aK u =>
  obtain⟨aO,x⟩:=u;cases aO with
  | st s=>exact .inr ⟨s,x,rfl⟩
  | _=>exact .inl rfl
 | nil=>exact .inl rfl
 | aA id=>exact .inl rfl
 | row id=>exact .inl rfl
 | _=>simp[eh] at h
theorem a0Y(h:Inv c G s a w){τ:Ty}{v:AV}{x:Value}{xs:List τ.den}{ids:List Nat}(ht:eh s.af (.slice τ) v=some (xs,ids))(hv:VR c G s.af w v x):∃ fp,Ow w (.slice τ.size (xs.map τ.aD)) [x] fp/\fp.Nodup/\∀ b∈fp,uq G s.af ids b:=by
 rcases TN ht with hc|⟨st,y,rfl⟩
 .exact wh h ht (hv.P4 hc)
 .simp[eh,Ty.rN] at ht
theorem ig:∀ {us:List TV} {cs:List Value} {fp:List Nat},cT w (us.map TV.aD) cs fp->wV us->cT w ((us.map Uv).map TV.aD) cs fp
 | [],_,_,h,_=>h
 | ⟨τ,x⟩::us,cs,fp,h,hf=>by
  obtain⟨v,r,f1,f2,rfl,rfl,h3,h4⟩:=h;cases τ with
  | mv t =>
   have hf:Option.isSome (α:=List t.den) x=true/\wV us:=hf;refine⟨v,r,f1,f2,rfl,rfl,?_,ig h4 hf.2⟩;match x,hf.1,h3 with
   | some l,_,h3=>exact h3
  | ptr=>exact⟨v,r,f1,f2,rfl,rfl,h3,ig h4 hf⟩
  | int k=>exact⟨v,r,f1,f2,rfl,rfl,h3,ig h4 hf⟩
  | bool=>exact⟨v,r,f1,f2,rfl,rfl,h3,ig h4 hf⟩
  | str=>exact⟨v,r,f1,f2,rfl,rfl,h3,ig h4 hf⟩
  | slice t=>exact⟨v,r,f1,f2,rfl,rfl,h3,ig h4 hf⟩
  | st q=>exact⟨v,r,f1,f2,rfl,rfl,h3,ig h4 hf⟩
theorem Gz:∀ {us:List TV} {cs:List Value} {fp:List Nat},cT w (us.map TV.aD) cs fp->(∀ u∈us,u.τ.LK=true)->cT w ((us.map Qx).map TV.aD) cs []
 | [],_,_,h,_=>⟨h.1,rfl⟩
 | ⟨τ,x⟩::us,cs,fp,h,hf=>by
  obtain⟨v,r,f1,f2,rfl,rfl,h3,h4⟩:=h;have hr:=Gz h4 λ u hu=>hf u (by simp[hu]);have sc:τ.rN=true->Ow w (τ.aD x) [v] []:=λ hs=>Ow.dT (S:=λ _=>True) _ (pO hs x) (Ow.rd _ h3 λ _ _=>trivial);have hm:τ.LK=true:=hf ⟨τ,x⟩ (by simp);cases τ with
  | mv t =>
   refine⟨v,r,[],[],rfl,rfl,?_,hr⟩;match x,h3 with
   | some l,h3=>obtain⟨a',cap,k1,_⟩:=h3;exact⟨⟨_,_,_,k1⟩,rfl⟩
   | none,h3=>exact⟨h3.1,rfl⟩
  | int k=>exact⟨v,r,[],[],rfl,rfl,sc rfl,hr⟩
  | bool=>exact⟨v,r,[],[],rfl,rfl,sc rfl,hr⟩
  | str=>exact⟨v,r,[],[],rfl,rfl,sc rfl,hr⟩
  | slice t=>cases hm
  | ptr=>exact⟨v,r,[],[],rfl,rfl,sc rfl,hr⟩
  | st q=>cases hm
theorem Xz(l:List Value)(k n:Nat):l.take k++(l.drop k).take n++l.drop (k+n)=l:=by
 rw[a8Y,<-b1B,a9Q,a9Q]
theorem Inv.a4D(h:Inv c G s a w){id i:Nat}{p q:aJ}{xs:List (Ty.den (.st p))}{y:p.den}{z:q.den}(aL:s.af id=some (.aA (.st p) xs))
  (hy:p.gW ((p.cells (xs.getD i (Ty.zero (.st p)))).map Qx)=some y) (hz:q.gW ((p.cells (xs.getD i (Ty.zero (.st p)))).map Uv)=some z) (yN:p.pG.all Ty.LK=true)
  (a4i:wV (p.cells (xs.getD i (Ty.zero (.st p))))) {a0:Option Addr} {n cap:Nat} {l:List Value} (eP:G.η id = .tuple (.slice a0 n cap::l).toArray) (hi:i<n) :
  ∃ G' f1 b,a0=some ⟨b,0,none⟩/\bh w b (i * p.size) ((l.drop (i * p.size)).take p.size)/\((l.drop (i * p.size)).take p.size).length=p.size/\Inv c G' (s.cd.hU id (.st p) (xs.set i y)) a w /\
   Ow w (q.aD z) ((l.drop (i * p.size)).take p.size) f1/\f1.Nodup/\Fr c G' (s.cd.hU id (.st p) (xs.set i y)).af w f1:=by
 have hT:=h.aM.tr id _ xs aL;obtain⟨hn,b,f,t,e1,M9,hh,eG⟩:=ss hT eP hi;have Dr:i<xs.length:=by omega
 have Bl:l.length=cap * p.size/\xs.length<=cap/\cap<=maxLen/\xs.length<=140737488355328:=by
  obtain⟨v0,l0,a1,Po,k1,k2,k3,k4,k5,k6⟩:=hT;rw[eP] at k1;simp only[a9T] at k1;have k1:(Value.slice a0 n cap::l)=v0::l0:=congrArg Array.toList k1;simp only[a8x] at k1;obtain⟨k7,rfl⟩:=k1;rw[k2] at k7;simp only[b0b] at k7;obtain⟨_,_,rfl⟩:=k7;rcases k6 with ⟨rfl,_,_⟩|⟨_,_,_,_,_,_,k8,_⟩
  .simp at Dr
  .exact⟨k8,k3,k4,k5⟩
 have bW:∀ d∈xs.map (Ty.aD (.st p)),d.size=p.size:=Fo (τ := .st p) xs;obtain⟨f0,f1,f2,hf,m0,m1,m2⟩:=bG.split (xs.map (Ty.aD (.st p))) i (Ty.aD (.st p) (xs.getD i (Ty.zero (.st p)))) eG bW (by simp[List.getD,Dr]);have rC:((l.drop (i * p.size)).take p.size).length=p.size:=by rw[a9t,a9C];omega
 have m1:Ow w (.agg ((p.cells (xs.getD i (Ty.zero (.st p)))).map TV.aD)) ((l.drop (i * p.size)).take p.size) f1:=by
  have:=m1;rwa [show Ty.aD (.st p) (xs.getD i (Ty.zero (.st p)))=p.aD (xs.getD i (Ty.zero (.st p))) from rfl,aJ.bT] at this
 have hz':Ow w (q.aD z) ((l.drop (i * p.size)).take p.size) f1:=by
  rw[aJ.bT,aJ.lv hz];exact ig m1 a4i
 have M7:Ow w (p.aD y) ((l.drop (i * p.size)).take p.size) []:=by
  rw[aJ.bT,aJ.lv hy];refine Gz m1 λ u hu=>?_;have:u.τ∈p.pG:=by rw[<-aJ.og p (xs.getD i (Ty.zero (.st p)))];exact a8w.2 ⟨u,hu,rfl⟩
  exact a9c.1 yN _ this
 have hr:=m2 w (p.aD y) _ [] (λ _ _=>rfl) rC M7;rw[Xz,a9B] at hr;have cX:=h.aM.nd id _ xs aL;rw[M9,a8V,hf] at cX;obtain⟨IJ,cX⟩:=cX;have a8l:=cX;rw[a8M,a8M] at cX;obtain⟨⟨d0,d1,d01⟩,d2,a2x⟩:=cX;have Sq:gG w (G.η id) (.st p) (xs.set i y) (b::(f0++f2)):=by
  refine⟨_,l,a0,cap,eP,by rw[hn,a9q],by rw[a9q];exact Bl.2.1,Bl.2.2.1,by rw[a9q];exact Bl.2.2.2, .inr ⟨b,f0++f2,t,e1,rfl,hh,Bl.1,?_⟩⟩;rw[b1T];exact hr
 have zA:∀ k∈b::(f0++f2),k∈G.φ id:=λ k hk=>by
  rw[M9,hf];simp only[a8G,a8t] at hk ⊢;rcases hk with hk|hk|hk<;>simp[hk]
 have a6A:(b::(f0++f2)).Nodup:=by
  refine a8V.2 ⟨λ hk=>IJ ?_,dQ d0 d2 λ x hx mo=>a2x x (by simp[hx]) x mo rfl⟩;simp only[a8t] at hk ⊢;rcases hk with hk|hk<;>simp[hk]
 have hf1:∀ k∈f1,k∈G.φ id/\k∉b::(f0++f2):=λ k hk=>by
  refine⟨by rw[M9,hf];simp[hk],λ hm=>?_⟩;simp only[a8G,a8t] at hm;rcases hm with rfl|hm|hm
  .exact IJ (by simp[hk])
  .exact d01 k hm k hk rfl
  .exact a2x k (by simp[hk]) k hm rfl
 obtain⟨g1,g2,g3⟩:=h.cd;have PJ:s.cd.af id=some (.aA (.st p) xs):=by rw[iG];simp[aL,au.cN]
 let A:List (Nat×TE):=[(id,(G.η id,b::(f0++f2), .aA (.st p) (xs.set i y)))];have T:=DC.ofList (c:=c) (G:=G) (lk:=s.cd.af) (w:=w) (w':=w) (A:=A) (λ e he=>by
  simp only[A,a8L] at he;subst he;exact⟨_,xs,_,_,l,l,PJ,rfl,eP,eP,Sq,a6A⟩) (λ e he k hk=>by
  simp only[A,a8L] at he;subst he;exact .inl ⟨_,a8L.2 rfl,zA k hk⟩) (λ e he e' xy _ _ _=>by
  simp only[A,a8L] at he xy;rw[he,xy]) (by simp[A]) (λ _ _ _=>rfl) rfl rfl rfl (a8C _)
 have hI:=aV.dY g1 T g2 g3;have bO:(s.cd.hU id (.st p) (xs.set i y)).af=TP A s.cd.af:=by
  funext j;rw[lu,TQ]
 refine⟨⟨G.S,Ci A G,wi A G⟩,f1,b,e1,?_,rC,?_,hz',d1,?_⟩
 .have:=(bh.of_heap hh).part (i * p.size) p.size;rwa [a9I] at this
 .unfold Inv;rw[bO];exact hI
 .intro k hk;obtain⟨k1,k2⟩:=hf1 k hk;obtain⟨q1,q2,q3,q4⟩:=g1.aM.pl id _ xs k PJ k1;refine⟨q1,q2,q3,λ j o hj mj=>?_,λ j τ ys hj mj=>?_⟩
  .have mj:dt (Ci A G j)=some k:=mj;rw[lu] at hj;by_cases qD:j=id
   .subst qD;have:Ci A G j=G.η j:=by simp[Ci,A,af]
    rw[this,eP] at mj;cases mj
   .rw[a8v qD] at hj;have:Ci A G j=G.η j:=by
     have dh:Nat.beq id j=false:=by
      cases hb:Nat.beq id j with
      | false=>rfl
      | true=>exact absurd (a8s hb).symm qD
     simp[Ci,A,af,dh]
    rw[this] at mj;exact q4 j o hj mj
  .have mj:k∈wi A G j:=mj;rw[lu] at hj;by_cases qD:j=id
   .subst qD;have:wi A G j=b::(f0++f2):=by simp[wi,A,af]
    rw[this] at mj;exact k2 mj
   .rw[a8v qD] at hj;have:wi A G j=G.φ j:=by
     have dh:Nat.beq id j=false:=by
      cases hb:Nat.beq id j with
      | false=>rfl
      | true=>exact absurd (a8s hb).symm qD
     simp[wi,A,af,dh]
    rw[this] at mj;exact qD (g1.aM.ap j id _ _ _ _ k hj PJ mj k1)
theorem Ue(hE:bu c.P c.E)(h:Inv c G s a w){o:Oper}{vc:Vc}{s':ag}(hq:Qk c.E s o=some (vc,s'))(dO:vc.ok){Q:Exit->Act->World->Prop} :
  o.wp c.P a w (λ a' w'=>∃ G',Inv c G' s' a' w') Q:=by
 unfold Qk at hq;split at hq;case h_2=>cases hq
 case h_1 d hd =>
 split at hq;case h_2=>cases hq
 case h_1 dk =>
 split at hq;case h_4=>cases hq
 case h_1 T len parts aW =>
  split at hq;case h_2=>cases hq
  case h_1 τ p hT =>
  obtain⟨b,e⟩:=p;split at hq;case h_2=>cases hq
  case h_1 hlen =>
  split at hq;case h_2=>cases hq
  case h_1 xs ids jG =>
  split at hq;case h_2=>cases hq
  case h_1 hb oJ =>
  simp only[a8r,a8u] at hq;obtain⟨rfl,rfl⟩:=hq;simp only[a8I] at hlen;have QQ:=a8s hlen.1;have Zc:=a9w hlen.2;subst QQ;obtain⟨h1,⟨b',e',h2⟩,i,z,h3,h4,h5,h6,h7⟩:=hE.slice hT;have Hf:=τ.size_pos;have He:τ.size<=100:=Ty.size_le τ;have Sv:parts.size * τ.size<=16777216:=a9v (b2l Zc He) (by decide);obtain⟨r,fp,h8,h9,h10,h11,h12⟩:=Kv (place:=λ i=>some (i * τ.size,τ.size)) h (λ _=>rfl) (l:=((Array.range (parts.size * τ.size)).map (λ j=>((if parts.size * τ.size=0 then #[] else z.cells:Array Value)[j % (if parts.size * τ.size=0 then #[] else z.cells:Array Value).size]!))).toList) jG (aI.CE (aR h) _) (cZ hb) (by simp);have ns:=Oq jG;simp only[a8W,a9k] at ns;rw[ns] at h10;simp only[b1s,b0F,a9e,a9o] at h8;have cz:(execOp a.eval o).run c.P w = .ok (.value (.slice (some ⟨w.heap.size,0,none⟩) parts.size parts.size)) (w.alloc (.cells r.toArray e)):=by
   have e2:(parts.map λ (i,x)=>(i,a.eval x)).toList=parts.toList.map λ p=>(p.1,a.eval p.2):=by simp
   have gP:¬ (parts.size * τ.size>2 ^ 24):=by omega
   simp only[execOp,aW,Instr.buildSlice,a8N,a9g h1,a8J,hE.sizeOf h2,a8v gP,a8O];by_cases h0:parts.size * τ.size=0
   .simp only[h0,b0k,a8N,a8O,a8J,e2] at h8 ⊢;rw[h8];simp[newRow]
   .simp only[h0,b1q,a8N,zeroValue,typeInfo,run_program,a8J,h3,h6,a8O,e2] at h8 ⊢;rw[h8];simp[newRow]
  unfold Oper.wp;rw[cz];show ∃ G',Inv c G' _ (a.put o.dst _) _;rw[hd];have bm:∀ k∈fp,k<w.heap.size:=λ k hk=>Q0 h (h12 k hk);have eG:bG (w.alloc (.cells r.toArray e)) (xs.map τ.aD) r fp:=bG.aE _ h9 λ k hk=>heap_alloc_old w _ k (bm k hk);refine Inv.built h (zs:=xs) (fp:=w.heap.size::fp) (l:=r) ((fg w _).ZY λ _ k=>k.elim) ⟨_,_,some ⟨w.heap.size,0,none⟩,parts.size,rfl,by rw[ns],by rw[ns];omega,by simp only[maxLen];omega,by rw[ns];omega, .inr ⟨w.heap.size,fp,e,rfl,rfl,heap_alloc_new w _,h10,eG⟩⟩ ⟨_,_,_,rfl⟩ (List.nodup_cons.2 ⟨λ hh=>Nat.lt_irrefl _ (bm _ hh),h11⟩) (λ k hk=>?_) oJ;rcases List.mem_cons.1 hk with rfl|hk
  .exact .inr ⟨a8C _,by simp⟩
  .exact .inl (h12 k hk)
 case h_2 T ad aW =>
  split at hq;case h_2=>cases hq
  case h_1 q r id i sz hT hx =>
  split at hq;case h_2=>cases hq
  case h_1 p xs aL =>
  split at hq;case h_2=>cases hq
  case h_1 y z hb hy hz =>
  split at hq;case h_2=>cases hq
  case h_1 Dq =>
  simp only[a8r,a8u] at hq;obtain⟨rfl,rfl⟩:=hq;simp only[a8I] at hb Dq;have bW:=a8s hb.1;subst bW;have hp:=aR h ad;rw[hx] at hp;obtain⟨_,b,n,cap,l,eP,hi,hp⟩:=hp;obtain⟨G1,f1,b',e1,k9,hlen,hI,hO,cX,hF⟩:=h.a4D aL hy hz hb.2 dO eP hi;simp only[a8r,b0f,a8T] at e1;subst e1;have hqs:q.size=p.size:=by
   have e:=Ow.length _ hO;rw[show (q.aD z).size=q.size from Ty.cg (.st q) z] at e;omega
  have cz:(execOp a.eval o).run c.P w = .ok (.value (.agg ((l.drop (i * p.size)).take p.size).toArray)) w:=by
   simp only[execOp,aW,hp,b0m,a8N,ga hE hT k9 (by rw[hlen];exact hqs.symm),a8J,a8O];rfl
  unfold Oper.wp;rw[cz];show ∃ G',Inv c G' _ (a.put o.dst _) _;rw[hd];have qC:∀ e∈bR (bD d) (TV.cells ⟨.st q,z⟩),(s.cd.hU id (.st p) (xs.set i y)).af e.1=none:=λ e he=>by
   have h0:(s.af e.1).isNone=true:=a9c.1 Dq.1 e he;have dh:e.1≠id:=λ hh=>by rw[hh,aL] at h0;cases h0
   rw[lu,a8v dh,iG];show Option.map au.cN (s.af e.1)=none;cases hl:s.af e.1 with
   | none=>rfl
   | some o=>rw[hl] at h0;cases h0
  obtain⟨G2,lk',k1,k2,k3,k4,_⟩:=aV.Qc (v:=⟨.st q,z⟩) (id:=bD d) hI ⟨_,rfl,hO⟩ cX hF qC (cZ Dq.2) (λ j hj=>by
   cases hr:c.R j with
   | none=>rfl
   | some v=>have:=h.fN j v hr;unfold bD at hj;omega)
  refine⟨G2,?_⟩;have bO:ag.af { aw:=s.cd.aw.set d (gE (bD d) ⟨.st q,z⟩),aC:=bR (bD d) (q.cells z)++(s.cd.hU id (.st p) (xs.set i y)).aC }=lk':=by
   funext j;rw[k1 j];exact oQ _ _ j
  unfold Inv;rw[bO,show ag.sl { aw:=s.cd.aw.set d (gE (bD d) ⟨.st q,z⟩),aC:=bR (bD d) (q.cells z)++(s.cd.hU id (.st p) (xs.set i y)).aC }=iu s.cd.aw.length s.cd.sl (some d) (gE (bD d) ⟨.st q,z⟩) from nJ s.cd.aw d _ _,
   show ({ aw:=s.cd.aw.set d (gE (bD d) ⟨.st q,z⟩),aC:=bR (bD d) (q.cells z)++(s.cd.hU id (.st p) (xs.set i y)).aC }:ag).aw.length=s.cd.aw.length from by simp]
  exact aV.put k2 k4.eS
 case h_3 cl aW =>
  split at hq;case h_3=>cases hq
  case h_2 f fJ =>
   split at hq;case h_1=>cases hq
   case h_2 fl _ _ =>
   split at hq;case h_2=>cases hq
   case h_1 own ids ht =>
   split at hq;case h_2=>cases hq
   case h_1 Z9 hb has =>
   split at hq;case h_2=>cases hq
   case h_1 pre res hc =>
   split at hq;case h_2=>cases hq
   case h_1 Dq =>
   simp only[Option.some.injEq,Prod.mk.injEq] at hq;obtain⟨rfl,rfl⟩:=hq;simp only[Bool.and_eq_true,List.all_eq_true] at Dq;have qC:∀ p∈aU (bD d) res,(ids.foldl ag.gone s).af p.1=none:=λ p hp=>by simpa using Dq.1 p hp
   have nU:=cZ Dq.2;obtain⟨qB,kZ⟩:=hE.HD f Z9 pre res hc dO;obtain⟨wE,t1,t2,t3,t4⟩:=ui h ht (cZ hb) (aI.jr (aR h) _);have h1:Inv c G (ids.foldl ag.gone s) a w:=tl ids h;have hF:∀ b,b∈wE.flatten->sw c G (ids.foldl ag.gone s).af w b:=λ b hb=>GI h (t4 b hb);obtain⟨m1,m2⟩:=qS hE h1 has t1 t2 (aI.jr (aR h1) _);generalize UU:ids.foldl ag.gone s=s1 at *
   unfold Oper.wp;rw[hJ aW fJ rfl qB];simp only[Oper.upon];refine (kZ w (SX G s1.af) _ wE.flatten ?_ m1 (.inr m2) t3 (λ b hb=>⟨(hF b hb).2.2.1,(hF b hb).a1U⟩)).mono ?_
   .exact h1.TM
   .rintro e w' ⟨x,fp,rfl,hk,hO,cX,nP⟩;have hI:=Inv.over h1 hF hk;obtain⟨ys,wH,M6⟩:=Fu (c:=c) (id:=bD d) hO;have hFr:Fr c G s1.af w' fp:=λ b hb=>by
     rcases nP b hb with hi|⟨q1,q2⟩
     .obtain⟨f1,f2,f3,f4,f5⟩:=hF b hi;exact⟨f1,f2,a8B f3 hk.size,f4,f5⟩
     .refine⟨.inl (a9v h1.aE.size q1),λ hs=>?_,q2,λ i o' hi tA=>?_,λ j τ zs hj mj=>?_⟩
      .have:=h1.dH b hs;omega
      .have:=(h1.place i o' b hi tA).2.2;omega
      .have:=(h1.aM.pl j τ zs b hj mj).2.2.1;omega
    obtain⟨G',lk',k1,k2,k3,k4,_⟩:=hI.FT (id:=bD d) wH cX hFr qC nU (λ j hj=>by
     cases hr:c.R j with
     | none=>rfl
     | some v=>have:=h.fN j v hr;unfold bD at hj;omega)
    refine⟨G',?_⟩;have bO:ag.af { aw:=s1.aw.set d (iH (bD d) res),aC:=aU (bD d) res++s1.aC }=lk':=by
     funext i;rw[k1 i];exact oQ _ _ i
    unfold Inv;rw[bO,hd,show ag.sl { aw:=s1.aw.set d (iH (bD d) res),aC:=aU (bD d) res++s1.aC }=iu s1.aw.length s1.sl (some d) (iH (bD d) res) from nJ s1.aw d _ _,
     show ({ aw:=s1.aw.set d (iH (bD d) res),aC:=aU (bD d) res++s1.aC }:ag).aw.length=s1.aw.length from by simp]
    exact aV.put k2 (M6 G' lk' k4)
  case h_1 fJ =>
  split at hq;case h_2=>cases hq
  case h_1 T T' MQ =>
  split at hq;case h_2=>cases hq
  case h_1 τ b e MP hT =>
  have MP:=a8s MP;subst MP;split at hq;case h_2=>cases hq
  case h_1 x y dJ =>
  split at hq;case h_2=>cases hq
  case h_1 xs i ys j hx hy =>
  split at hq;case h_2=>cases hq
  case h_1 hb oJ =>
  simp only[a8r,a8u] at hq;obtain⟨rfl,rfl⟩:=hq;obtain⟨v,z,e1,e2,e3⟩:=a1l h dJ;have hb:=cZ hb;rw[a8M] at hb;obtain⟨n1,n2,n3⟩:=hb;obtain⟨fx,o1,o2,o3⟩:=a0Y h hx e2;obtain⟨fy,p1,p2,p3⟩:=a0Y h hy e3;obtain⟨v',w',fp,l,k1,k2,k3,k4,k5,k6⟩:=Qd (c:=c) (w:=w) hE hT o1 p1 (λ k hk=>Q0 h (o3 k hk)) (λ k hk=>Q0 h (p3 k hk)) o2 p2
   (λ k hk fe=>h.iB (o3 k hk) (p3 k fe) λ x hx y hy=>n3 x hx y hy) dO o.type
  have G5:cl.argTypes = #[T,T]:=by rw[<-a9o (xs:=cl.argTypes),MQ]
  have Bs:cl.args.map a.eval = #[v,z]:=by rw[<-a9o (xs:=cl.args.map a.eval),b0i,e1]
  have MW:(execOp a.eval o)=(do let d <-resolve a.eval cl o.type;invoke d.target d.args):=by simp[execOp,aW]
  have Ha:(execOp a.eval o).run c.P w=((Builtin.append_ #[T,T] o.type #[v,z]).run c.P w).andThen λ v w => .ok (.value v) w:=by
   rw[MW];simp[resolve,fJ,invoke,builtin,G5,Bs]
  unfold Oper.wp;rw[Ha,k1];show ∃ G',Inv c G' _ (a.put o.dst _) _;rw[hd];refine Inv.built h (zs:=xs++ys) (fp:=fp) (l:=l) (k6.ZY λ k hk=>(o3 k hk).mono λ i hi=>by simp[hi]) k2 k3 k4 (λ k hk=>?_) oJ;rcases k5 k hk with hk|hk|hk
  .exact .inl ((o3 k hk).mono λ i hi=>by simp[hi])
  .exact .inl ((p3 k hk).mono λ i hi=>by simp[hi])
  .exact .inr hk
end
def a4M:Value->Nat
 | .pointer (some a)=>a.block
 | _=>0
def jx(G:Gh)(m:List (Nat×Nat))(k:Nat):Nat:=match af m k with
 | some id=>a4M (G.η id)
 | none=>0
def jw(m m':List (Nat×Nat)):Prop:=∀ k id,af m k=some id->af m' k=some id
theorem jw.refl(m:List (Nat×Nat)):jw m m:=λ _ _ h=>h
theorem jw.trans{a b c:List (Nat×Nat)}(h:jw a b)(k:jw b c):jw a c:=λ i id q=>k i id (h i id q)
theorem vS{α:Type}(k:Nat)(o:α)(l:List (Nat×α))(j:Nat):af ((k,o)::l) j=if j=k then some o else af l j:=by
 have e:af ((k,o)::l) j=match Nat.beq k j with
  | true=>some o
  | false=>af l j:=rfl
 rw[e];cases hb:Nat.beq k j with
 | true=>rw[a8A (a8s hb).symm]
 | false=>rw[a8v (λ e=>by subst e;rw[Nat.beq_refl] at hb;cases hb)]
theorem MA{m:List (Nat×Nat)}{k id:Nat}(h:af m k=none):jw m ((k,id)::m):=λ i j q=>by
 rw[vS];by_cases hi:i=k
 .subst hi;rw[h] at q;cases q
 .rw[a8v hi];exact q
theorem Ny{m:List (Nat×Nat)}{k id:Nat}:af ((k,id)::m) k=some id:=by rw[vS,a8A rfl]
section
variable {c:Ctx} {G:Gh} {s:ag} {a:Act} {w w':World}
theorem Ya{lk:Nat->Option au}{τ:Ty}{v:AV}{x:Value}{y:τ.den}(h:ic (λ _=>none) τ v=some y)(hv:C1 c G lk w v x):Rd w G.S (τ.aD y) [x]:=LB h hv
theorem lY{sl:Nat->AV}{n:Nat}{lk:Nat->Option au}(h:aV c G sl n lk a w):∀ {ks:List CK} {cs:List AV} {m m':List (Nat×Nat)} {ds:List TV} {ids:List Nat} {l:List Value},cJ lk ks cs m=some (ds,ids,m')->ids.Nodup->aI (C1 c G lk w) cs l ->
  jw m m'/\∃ fp,(∀ mf,jw m' mf->jd w G.S (jx G mf) ks ds l fp)/\fp.Nodup/\∀ b∈fp,uq G lk ids b
 | [],[],m,m',ds,ids,l,ht,_,hv=>by
  simp only[cJ,a8r,a8u] at ht;obtain⟨rfl,rfl,rfl⟩:=ht;match l,hv with
  | [],_=>exact⟨jw.refl _,[],λ _ _=>rfl,a9x,by simp⟩
 | .d τ::ks,v::cs,m,m',ds,ids,l,ht,hn,hv=>by
  simp only[cJ] at ht;split at ht;case h_2=>cases ht
  case h_1 y hy zx =>
  split at ht;case h_2=>cases ht
  case h_1 ds1 SO m1 hr =>
  simp only[a8r,a8u] at ht;obtain⟨rfl,rfl,rfl⟩:=ht;match l,hv with
  | x::l,hv =>
   obtain⟨e1,fp,e2,e3,e4⟩:=lY h hr hn hv.2;exact⟨e1,fp,λ mf hm=>⟨⟨rfl,zx,Ya hy hv.1⟩,e2 mf hm⟩,e3,e4⟩
 | .o τ::ks,v::cs,m,m',ds,ids,l,ht,hn,hv=>by
  simp only[cJ] at ht;split at ht;case h_2=>cases ht
  case h_1 y i hy zx =>
  split at ht;case h_2=>cases ht
  case h_1 ds1 SO m1 hr =>
  simp only[a8r,a8u] at ht;obtain⟨rfl,rfl,rfl⟩:=ht;rw[a8M] at hn;obtain⟨n1,n2,n3⟩:=hn;match l,hv with
  | x::l,hv =>
   obtain⟨e1,fp,e2,e3,e4⟩:=lY h hr n2 hv.2;obtain⟨f1,o1,o2,o3⟩:=wh h hy hv.1;refine⟨e1,f1++fp,λ mf hm=>⟨f1,fp,rfl,⟨rfl,zx,o1⟩,e2 mf hm⟩,dQ o2 e3 λ b hb cq=>h.iB (o3 b hb) (e4 b cq) λ x hx y hy=>n3 x hx y hy,λ b hb=>?_⟩;rcases a8t.1 hb with hb|hb
   .exact (o3 b hb).mono λ k hk=>by simp[hk]
   .exact (e4 b hb).mono λ k hk=>by simp[hk]
 | .p j::ks,v::cs,m,m',ds,ids,l,ht,hn,hv=>by
  simp only[cJ] at ht;split at ht;case h_2=>cases ht
  case h_1 id =>
  match l,hv with
  | x::l,hv =>
   have key:∀ m1,cJ lk ks cs m1=some (ds,ids,m')->jw m m1->af m1 j=some id->jw m m'/\∃ fp,(∀ mf,jw m' mf->jd w G.S (jx G mf) (.p j::ks) ds (x::l) fp)/\fp.Nodup/\∀ b∈fp,uq G lk ids b:=λ m1 hr hx hj=>by
    obtain⟨e1,fp,e2,e3,e4⟩:=lY h hr hn hv.2;refine⟨hx.trans e1,fp,λ mf hm=>?_,e3,e4⟩;have hv1:C1 c G lk w (.ptr id 0) x:=hv.1;obtain⟨b,h1,h2,_⟩:=hv1;have:jx G mf j=b:=by
     simp only[jx,hm j id (e1 j id hj),h1];rfl
    cases ds with
    | nil=>exact⟨by rw[this];exact h2,e2 mf hm⟩
    | cons d ds=>exact⟨by rw[this];exact h2,e2 mf hm⟩
   split at ht
   .rename_i i hi;split at ht
    .rename_i hb;have hb:=a8s hb;subst hb;exact key m ht (jw.refl _) hi
    .cases ht
   .rename_i gP;exact key _ ht (MA gP) Ny
 | [],_::_,_,_,_,_,_,ht,_,_=>by simp[cJ] at ht
 | .d _::_,[],_,_,_,_,_,ht,_,_=>by simp[cJ] at ht
 | .o _::_,[],_,_,_,_,_,ht,_,_=>by simp[cJ] at ht
 | .p _::_,[],_,_,_,_,_,ht,_,_=>by simp[cJ] at ht
def a3z(lk:Nat->Option au)(m:List (Nat×Nat))(k0 n:Nat):Prop:=∀ k,k0<=k->k<k0+n->∃ id cs,af m k=some id/\lk id=some (.box cs)
theorem Ag{sl:Nat->AV}{n:Nat}{lk:Nat->Option au}(h:aV c G sl n lk a w):∀ {sh:List (List CK)} {k:Nat} {m m':List (Nat×Nat)} {cw:List (List TV)} {ids:List Nat},jM lk sh k m=some (cw,ids,m')->ids.Nodup ->
  jw m m'/\a3z lk m' k sh.length/\∃ fp,(∀ mf,jw m' mf->fQ w G.S (jx G mf) k sh cw fp)/\fp.Nodup/\∀ b∈fp,uq G lk ids b
 | [],k,m,m',cw,ids,ht,_=>by
  simp only[jM,a8r,a8u] at ht;obtain⟨rfl,rfl,rfl⟩:=ht;exact⟨jw.refl _,λ j h1 h2=>by simp at h2;omega,[],λ _ _=>rfl,a9x,by simp⟩
 | ks::sh,k,m,m',cw,ids,ht,hn=>by
  simp only[jM] at ht;split at ht;case h_2=>cases ht
  case h_1 id aL =>
  split at ht;case h_2=>cases ht
  case h_1 cs iY =>
  split at ht;case h_2=>cases ht
  case h_1 ds i m1 hr =>
  split at ht;case h_2=>cases ht
  case h_1 a5R SO m2 uy =>
  simp only[a8r,a8u] at ht;obtain⟨rfl,rfl,rfl⟩:=ht;rw[a8M] at hn;obtain⟨n1,n2,n3⟩:=hn;obtain⟨b,l,t,q1,q2,q3⟩:=h.aC id _ iY;obtain⟨e1,f1,e2,e3,e4⟩:=lY h hr n1 q3;obtain⟨g1,g0,f2,g2,g3,g4⟩:=Ag h uy n2;refine⟨e1.trans g1,λ j h1 h2=>?_,f1++f2,λ mf hm=>⟨l,t,f1,f2,rfl,?_,e2 mf (g1.trans hm),g2 mf hm⟩,dQ e3 g3 λ b hb cq=>h.iB (e4 b hb) (g4 b cq) λ x hx y hy=>n3 x hx y hy,λ b hb=>?_⟩
  .by_cases hj:j=k
   .subst hj;exact⟨id,cs,(e1.trans g1) j id aL,iY⟩
   .exact g0 j (by omega) (by simp at h2;omega)
  .have:jx G mf k=b:=by
    simp only[jx,hm k id ((e1.trans g1) k id aL),q1];rfl
   rw[this];exact q2
  .rcases a8t.1 hb with hb|hb
   .exact (e4 b hb).mono λ k hk=>by simp[hk]
   .exact (g4 b hb).mono λ k hk=>by simp[hk]
theorem sK:∀ {fl:List (Option Nat)} {vs:List AV} {m m':List (Nat×Nat)},gH fl vs m=some m'->jw m m'/\∀ (i k:Nat),fl[i]?=some (some k)->∃ id,vs[i]?=some (AV.ptr id 0)/\af m' k=some id
 | [],[],m,m',h=>by
  simp only[gH,a8r] at h;subst h;exact⟨jw.refl _,λ i k q=>by simp at q⟩
 | none::fl,v::vs,m,m',h=>by
  obtain⟨h1,h2⟩:=sK (fl:=fl) (vs:=vs) h;refine⟨h1,λ i k q=>?_⟩;cases i with
  | zero=>simp at q
  | succ i=>exact h2 i k (by simpa using q)
 | some k::fl,v::vs,m,m',h=>by
  simp only[gH] at h;split at h;case h_2=>cases h
  case h_1 id =>
  have key:∀ m1,jw m m1->af m1 k=some id->gH fl vs m1=some m'->jw m m'/\∀ (i k':Nat),(some k::fl)[i]?=some (some k')->∃ di,(AV.ptr id 0::vs)[i]?=some (AV.ptr di 0)/\af m' k'=some di:=λ m1 e1 e2 e3=>by
   obtain⟨h1,h2⟩:=sK e3;refine⟨e1.trans h1,λ i k' q=>?_⟩;cases i with
   | zero =>
    simp only[b1n,a8r] at q;subst q;exact⟨id,rfl,h1 k id e2⟩
   | succ i=>exact h2 i k' (by simpa using q)
  split at h
  .rename_i i hi;split at h
   .rename_i hb;have hb:=a8s hb;subst hb;exact key m (jw.refl _) hi h
   .cases h
  .rename_i gP;exact key _ (MA gP) Ny h
 | [],_::_,_,_,h=>by simp[gH] at h
 | some _::_,[],_,_,h=>by simp[gH] at h
 | none::_,[],_,_,h=>by simp[gH] at h
theorem PS{lk:Nat->Option au}{ids:List Nat}{id:Nat}{o:au}(h:Vi lk ids id=some o):lk id=some o/\id∉ids/\∃ cs,o = .box cs:=by
 unfold Vi at h;split at h
 .cases h
 .rename_i hc;split at h
  .rename_i cs iY;simp only[Option.some.injEq] at h;subst h;exact⟨iY,by simpa using hc,cs,rfl⟩
  .cases h
theorem WK{S S':Nat->Prop}{τ:Ty}{y:τ.den}{x:Value}(hf:(match CK.d τ with | .d (.slice _)=>false | .d (.mv _)=>false|_=>true)=true)(ha:τ.agg=false)(h:Rd w S (τ.aD y) [x]):Rd w S' (τ.aD y) [x]:=by
 cases τ with
 | slice t=>cases hf
 | mv t=>cases hf
 | st s=>cases ha
 | _=>exact h
theorem jd.flat{S S':Nat->Prop}{B:Nat->Nat}:∀ {ks:List CK} {ds:List TV} {l:List Value} {fp:List Nat},(ks.all λ k=>match k with | .d (.slice _)=>false | .d (.mv _)=>false|_=>true)=true->jd w S B ks ds l fp->jd w S' B ks ds l fp:=by
 intro ks;induction ks with
 | nil=>intro ds l fp _ h;cases ds<;>cases l<;>exact h
 | cons k0 ks ih =>
  intro ds l fp hf h;rw[List.all_cons,a8I] at hf;cases l with
  | nil=>cases k0<;>cases ds<;>cases h
  | cons x l =>
   cases k0 with
   | d τ =>
    cases ds with
    | nil=>cases h
    | cons v ds =>
     obtain⟨⟨e,h1,h2⟩,h3⟩:=h;refine⟨⟨e,h1,?_⟩,ih hf.2 h3⟩;obtain⟨aO,y⟩:=v;simp only at e;subst e;exact WK hf.1 h1 h2
   | o τ =>
    cases ds with
    | nil=>cases h
    | cons v ds =>
     obtain⟨f1,f2,e,h1,h2⟩:=h;exact⟨f1,f2,e,h1,ih hf.2 h2⟩
   | p j =>
    have h:x = .pointer (some ⟨B j,0,none⟩)/\jd w S B ks ds l fp:=by cases ds<;>exact h
    have r:=ih hf.2 h.2;cases ds<;>exact⟨h.1,r⟩
theorem fQ.flat{S S':Nat->Prop}{B:Nat->Nat}:∀ {sh:List (List CK)} {k:Nat} {cw:List (List TV)} {fa:List Nat},GG sh=true->fQ w S B k sh cw fa->fQ w S' B k sh cw fa
 | [],k,cw,fa,_,h=>by cases cw<;>exact h
 | ks::sh,k,[],fa,_,h=>h.elim
 | ks::sh,k,ds::cw,fa,hf,h=>by
  obtain⟨l,t,f1,f2,e,h1,h2,h3⟩:=h;unfold GG at hf;rw[List.all_cons,Bool.and_eq_true] at hf;exact⟨l,t,f1,f2,e,h1,h2.flat hf.1,fQ.flat hf.2 h3⟩
theorem Pb.more{P:Program}{f:FuncId}{sh:List (List CK)}{args:List Arg}{cw:List (List TV)}{res:List TV}{ej:List (List TV)}(h:Pb P f sh args cw res ej)(OH:GG sh=true){S T:Nat->Prop}{B:Nat->Nat}{cC:List Value}{fa:List Nat}(hT:iX w T)(hST:∀ b,S b->T b)
  (hX:∀ b,BX sh.length B fa b->¬ T b) (WQ:fQ w S B 0 sh cw fa) (VZ:fa.Nodup) (Sz:∀ b∈fa,b<w.heap.size/\¬ S b/\∀ k,k<sh.length->B k≠b) (hB:∀ k,k<sh.length->B k<w.heap.size/\¬ S (B k))
  (Ke:∀ j k,j<sh.length->k<sh.length->B j=B k->j=k) (ha:aI (VF P w T (BX sh.length B fa) B) args cC):Qb P f sh res ej w S B cC fa:=by
 refine (h w T B cC fa hT (WQ.flat OH) VZ (λ b hb=>⟨(Sz b hb).1,hX b (.inl hb),(Sz b hb).2.2⟩) (λ k hk=>⟨(hB k hk).1,hX _ (.inr ⟨k,hk,rfl⟩)⟩) Ke ha).mono ?_;rintro e w' ⟨x,S',fp,QB,rfl,hk,UC,WR,hS3,hO,hB',cX,nP,hBS⟩;refine⟨x,λ b=>S' b/\(T b->S b),fp,QB,rfl,hk,λ b hb=>⟨UC b (hST b hb),λ _=>hb⟩,λ b hb=>WR b hb.1,λ b hb hx=>?_,hO,hB'.flat OH,cX,λ b hb=>⟨(nP b hb).1,λ q=>(nP b hb).2.1 q.1,(nP b hb).2.2⟩,λ k hk q=>hBS k hk q.1⟩;have:=hS3 b hb hx;exact⟨λ q=>q.2 (this.1 q.1),λ q=>⟨this.2 (hST b q),λ _=>q⟩⟩
theorem HT{sh:List (List CK)}{lk:Nat->Option au}{ids:List Nat}{id:Nat}{o:au}(h:Xv sh lk ids id=some o):lk id=some o/\id∉ids:=by
 unfold Xv at h;split at h
 .split at h
  .cases h
  .rename_i hc;exact⟨h,by simpa using hc⟩
 .obtain⟨h1,h2,_⟩:=PS h;exact⟨h1,h2⟩
theorem N1(h1:Inv c G s a w){S1 X:Nat->Prop}{lk':Nat->Option au}(bO:∀ id o,lk' id=some o->s.af id=some o)(eO:∀ (τ:Ty) v x (y:τ.den),ur lk' τ v=some y->VR c G s.af w v x->dv w S1 ⟨τ,y⟩ x)
  (rB:∀ b,X b->¬ St c G.S b) (jE:∀ id o b,lk' id=some o->dt (G.η id)=some b->¬ X b) {τ:Ty} {v:AV} {x:Value} {y:τ.den} (hy:deref lk' τ v=some y) (hx:VR c G s.af w v x) :
  ∃ b o cs,x = .pointer (some ⟨b,o,none⟩)/\b<w.heap.size/\¬ X b/\bh w b o cs/\Rd w S1 (τ.aD y) cs:=by
 obtain⟨b,o,cs,k1,k2,k3,k4⟩:=AW (S:=S1) h1 bO eO hy hx;refine⟨b,o,cs,k1,k2,?_,k3,k4⟩;unfold deref at hy;split at hy;case h_2=>cases hy
 case h_1 u hu =>
 cases v with
 | cO z =>
  obtain⟨b',o',dm,q1,q2,_⟩:=hx;rw[k1] at q1;simp only[b0M,a8r,b0f] at q1;obtain⟨rfl,_⟩:=q1;exact λ hb=>rB _ hb q2
 | ptr id off =>
  obtain⟨b',q1,q2,_⟩:=hx;rw[k1] at q2;simp only[b0M,a8r,b0f] at q2;obtain⟨rfl,_⟩:=q2;simp only[pn] at hu;split at hu
  .rename_i Sa iY;exact jE id _ _ iY (by rw[q1];rfl)
  .cases hu
 | dN id i off =>
  obtain⟨b',n',Mm,e',aO,cI,q1,q2,q3,q4⟩:=hx;rw[k1] at q4;simp only[b0M,a8r,b0f] at q4;obtain⟨rfl,_⟩:=q4;simp only[pn] at hu;split at hu
  .rename_i hr;exact jE id _ _ hr (by rw[q1];rfl)
  .cases hu
 | _=>simp[pn] at hu
theorem AR(h1:Inv c G s a w){S1 X:Nat->Prop}{lk':Nat->Option au}(bO:∀ id o,lk' id=some o->s.af id=some o)(eO:∀ (τ:Ty) v x (y:τ.den),ur lk' τ v=some y->VR c G s.af w v x->dv w S1 ⟨τ,y⟩ x)
  (rB:∀ b,X b->¬ St c G.S b) (jE:∀ id o b,lk' id=some o->dt (G.η id)=some b->¬ X b):∀ {ks:List (Bool×Ty)} {vs:List AV} {Z9:List Arg} {xs:List Value},mX lk' ks vs=some Z9->aI (CR c G s.af w) vs xs->aI (a2d w S1 X) Z9 xs
 | [],[],Z9,xs,h,hv=>by
  simp only[mX,a8r] at h;subst h;match xs,hv with
  | [],_=>trivial
 | (true,τ)::ks,v::vs,Z9,xs,h,hv=>by
  simp only[mX] at h;split at h
  .rename_i y hy;split at h
   .rename_i r hr;simp only[a8r] at h;subst h;match xs,hv with
    | x::xs,hv=>exact⟨N1 h1 bO eO rB jE hy hv.1.eS,AR h1 bO eO rB jE hr hv.2⟩
   .cases h
  .cases h
 | (false,τ)::ks,v::vs,Z9,xs,h,hv=>by
  simp only[mX] at h;split at h
  .rename_i y hy;split at h
   .rename_i r hr;simp only[a8r] at h;subst h;match xs,hv with
    | x::xs,hv=>exact⟨eO _ _ _ _ hy hv.1.eS,AR h1 bO eO rB jE hr hv.2⟩
   .cases h
  .cases h
 | [],_::_,_,_,h,_=>by cases h
 | (true,_)::_,[],_,_,h,_=>by cases h
 | (false,_)::_,[],_,_,h,_=>by cases h
theorem Uh(hE:bu c.P c.E)(h1:Inv c G s a w){S1 X:Nat->Prop}(KK:∀ b,G.S b->S1 b){lk':Nat->Option au}(bO:∀ id o,lk' id=some o->s.af id=some o)(eO:∀ (τ:Ty) v x (y:τ.den),ur lk' τ v=some y->VR c G s.af w v x->dv w S1 ⟨τ,y⟩ x)
  (rB:∀ b,X b->¬ St c G.S b) (jE:∀ id o b,lk' id=some o->dt (G.η id)=some b->¬ X b) {g:AV} {x:Value} {q:FV} {B:Nat->Nat} (h:yv c.E lk' g=some q) (hx:VR c G s.af w g x):VF c.P w S1 X B (.cM q) x:=by
 unfold yv at h;split at h
 .rename_i f cs;split at h
  .rename_i k _;split at h
   .rename_i Z9 has;simp only[a8r] at h;subst h;obtain⟨l,k1,k2⟩:=hx;exact⟨f,Z9,l,k1,sO hE _ _ _,AR h1 bO eO rB jE has k2⟩
   .cases h
  .cases h
 .simp only[a8r] at h;subst h;obtain⟨f,eb,l,k1,k2,k3⟩:=hx;refine⟨f,eb,l,k1,k2,k3.imp λ u y _ hy=>?_⟩;cases u with
  | val v=>exact dv.mono (G:=G) (G':=⟨S1,G.η,G.φ⟩) hy KK (λ _ _=>rfl)
  | ref v =>
   obtain⟨b,o,cs,k1,k2,k3,k4⟩:=hy;refine⟨b,o,cs,k1,?_,λ hb=>rB b hb k2,k3,Rd.aE KK (λ _ _=>rfl) _ k4⟩;exact k2.elim (h1.dH b) λ k=>a8B k.1 h1.aE.size
  | fn f=>exact hy
  | _=>exact hy.elim
 .rename_i f;split at h
  .rename_i k _;split at h
   .simp only[a8r] at h;subst h;exact⟨f,[],[],hx,sO hE _ _ _,ae⟩
   .cases h
  .cases h
 .cases h
theorem we(hE:bu c.P c.E)(h1:Inv c G s a w){mf:List (Nat×Nat)}{S1 X:Nat->Prop}(KK:∀ b,G.S b->S1 b){lk':Nat->Option au}(bO:∀ id o,lk' id=some o->s.af id=some o)
  (eO:∀ (τ:Ty) v x (y:τ.den),ur lk' τ v=some y->VR c G s.af w v x->dv w S1 ⟨τ,y⟩ x) (rB:∀ b,X b->¬ St c G.S b) (jE:∀ id o b,lk' id=some o->dt (G.η id)=some b->¬ X b) {lk0:Nat->Option au} :
  ∀ {fl:List (Option Nat)} {Ts:List TypeId} {vs RN:List AV} {xs:List Value} {Z9:List Arg},pc c.E lk' fl Ts vs=some Z9->aI (VR c G s.af w) vs xs->aI (VR c G lk0 w) RN xs ->
   (∀ (i k:Nat),fl[i]?=some (some k)->∃ id,RN[i]?=some (AV.ptr id 0)/\af mf k=some id)->aI (VF c.P w S1 X (jx G mf)) Z9 xs
 | [],[],[],RN,xs,Z9,h,hv,_,_=>by
  simp only[pc,a8r] at h;subst h;match xs,hv with
  | [],_=>trivial
 | some k::fl,T::Ts,v::vs,RN,xs,Z9,h,hv,Hh,hb=>by
  simp only[pc] at h;split at h;case h_2=>cases h
  case h_1 r hr =>
  simp only[a8r] at h;subst h;match xs,RN,hv,Hh with
  | x::xs,v0::RN,hv,Hh =>
   obtain⟨id,q1,q2⟩:=hb 0 k rfl;simp only[List.getElem?_cons_zero,Option.some.injEq] at q1;subst q1;have hp:VR c G lk0 w (.ptr id 0) x:=Hh.1;obtain⟨b,k1,k2,_⟩:=hp;refine⟨?_,we hE h1 KK bO eO rB jE hr hv.2 Hh.2 λ i k' q=>by simpa using hb (i+1) k' (by simpa using q)⟩;show x = .pointer (some ⟨jx G mf k,0,none⟩);simp only[jx,q2,k1];exact k2
  | x::xs,[],_,Hh=>exact Hh.elim
 | none::fl,T::Ts,v::vs,RN,xs,Z9,h,hv,Hh,hb=>by
  simp only[pc] at h;split at h;case h_2=>cases h
  case h_1 z hz =>
  split at h;case h_2=>cases h
  case h_1 r hr =>
  simp only[a8r] at h;subst h;match xs,RN,hv,Hh with
  | x::xs,v0::RN,hv,Hh =>
   refine⟨?_,we hE h1 KK bO eO rB jE hr hv.2 Hh.2 λ i k' q=>by simpa using hb (i+1) k' (by simpa using q)⟩;unfold L8 at hz;split at hz
   .rename_i τ q hT;split at hz
    .rename_i y hy;simp only[a8r] at hz;subst hz;exact eO _ _ _ _ hy hv.1
    .cases hz
   .split at hz
    .rename_i τ hT;split at hz
     .rename_i y hy;simp only[a8r] at hz;subst hz;exact N1 h1 bO eO rB jE hy hv.1
     .cases hz
    .split at hz
     .rename_i q hq;simp only[a8r] at hz;subst hz;exact Uh hE h1 KK bO eO rB jE hq hv.1
     .split at hz
      .rename_i f;simp only[a8r] at hz;subst hz;exact hv.1
      .cases hz
  | x::xs,[],_,Hh=>exact Hh.elim
 | [],_::_,_,_,_,_,h,_,_,_=>by simp[pc] at h
 | [],[],_::_,_,_,_,h,_,_,_=>by simp[pc] at h
 | some _::_,[],_,_,_,_,h,_,_,_=>by simp[pc] at h
 | none::_,[],_,_,_,_,h,_,_,_=>by simp[pc] at h
 | some _::_,_::_,[],_,_,_,h,_,_,_=>by simp[pc] at h
 | none::_,_::_,[],_,_,_,h,_,_,_=>by simp[pc] at h
def fh:List CK->List TV->List TV
 | .d _::ks,_::ds=>fh ks ds
 | .o _::ks,v::ds=>v::fh ks ds
 | .p _::ks,ds=>fh ks ds
 | _,_=>[]
def ri:List CK->List Value->List Value
 | .o _::ks,x::xs=>x::ri ks xs
 | _::ks,_::xs=>ri ks xs
 | _,_=>[]
theorem jd.uc{S:Nat->Prop}{B:Nat->Nat}:∀ {ks:List CK} {ds:List TV} {l:List Value} {fp:List Nat},jd w S B ks ds l fp->cT w ((fh ks ds).map TV.aD) (ri ks l) fp/\(∀ u∈fh ks ds,u.τ.agg=false)/\(fh ks ds).length=(ri ks l).length
 | [],[],[],fp,h=>⟨⟨rfl,h⟩,by simp[fh],rfl⟩
 | .d τ::ks,v::ds,x::xs,fp,h=>by
  obtain⟨_,h2⟩:=h;obtain⟨k1,k2,k3⟩:=jd.uc h2;exact⟨k1,k2,k3⟩
 | .o τ::ks,v::ds,x::xs,fp,h=>by
  obtain⟨f1,f2,rfl,⟨e,h1,h2⟩,h3⟩:=h;obtain⟨k1,k2,k3⟩:=jd.uc h3;refine⟨⟨x,ri ks xs,f1,f2,rfl,rfl,h2,k1⟩,λ u hu=>?_,by simp[fh,ri,k3]⟩;rcases a8G.1 hu with rfl|hu
  .rw[e];exact h1
  .exact k2 u hu
 | .p j::ks,ds,x::xs,fp,h=>by
  have h:x = .pointer (some ⟨B j,0,none⟩)/\jd w S B ks ds xs fp:=by cases ds<;>exact h
  obtain⟨k1,k2,k3⟩:=jd.uc h.2;refine⟨?_,?_,?_⟩<;>cases ds<;>first|exact k1|exact k2|exact k3
 | [],_::_,_,_,h=>h.elim
 | [],[],_::_,_,h=>h.elim
 | .d _::_,[],_,_,h=>by cases h
 | .o _::_,[],_,_,h=>by cases h
 | .d _::_,_::_,[],_,h=>by cases h
 | .o _::_,_::_,[],_,h=>by cases h
 | .p _::_,ds,[],_,h=>by cases ds<;>cases h
theorem Ad:∀ (n:Nat) (a b:List TV),bR n (a++b)=bR n a++bR (n+a.length) b
 | n,[],b=>by simp[bR]
 | n,u::a,b=>by
  have:=Ad (n+1) a b;simp only[a9i,bR,this,a8Y,a8F];rw[show n+1+a.length=n+(a.length+1) by omega]
theorem x6:∀ (n:Nat) (a b:List TV),dx n (a++b)=dx n a++dx (n+a.length) b
 | n,[],b=>by simp[dx]
 | n,u::a,b=>by
  have:=x6 (n+1) a b;simp only[a9i,dx,this,a8F];rw[show n+1+a.length=n+(a.length+1) by omega]
theorem cT.append:∀ {a b:List D} {x y:List Value} {f g:List Nat},cT w a x f->cT w b y g->cT w (a++b) (x++y) (f++g)
 | [],b,x,y,f,g,h,k=>by
  obtain⟨rfl,rfl⟩:=h;exact k
 | d::a,b,x,y,f,g,h,k=>by
  obtain⟨v,r,f1,f2,rfl,rfl,h3,h4⟩:=h;exact⟨v,r++y,f1,f2++g,rfl,by simp,h3,h4.append k⟩
theorem nF{m:List (Nat×Nat)}{S:Nat->Prop}{B:Nat->Nat}{G':Gh}{lk':Nat->Option au}(hS:∀ b,S b->G'.S b)(hB:∀ j id,af m j=some id->G'.η id = .pointer (some ⟨B j,0,none⟩)/\gm (lk' id)=true) :
  ∀ {ks:List CK} {cs:List AV} {ds:List TV} {n n':Nat} {r:List AV} {os:List (Nat×au)} {l:List Value} {fp:List Nat},bL m ks cs ds n=some (r,os,n')->jd w S B ks ds l fp->aI (C1 c G' lk' w) (dx n (fh ks ds)) (ri ks l) ->
   aI (C1 c G' lk' w) r l
 | [],[],[],n,n',r,os,l,fp,h,hb,hc=>by
  simp only[bL,a8r,a8u] at h;obtain⟨rfl,rfl,rfl⟩:=h;match l,hb with
  | [],_=>trivial
 | .d τ::ks,c0::cs,v::ds,n,n',r,os,l,fp,h,hb,hc=>by
  simp only[bL] at h;split at h;case h_2=>cases h
  case h_1 hv =>
  split at h;case h_2=>cases h
  case h_1 r1 Th n1 hr =>
  simp only[a8r,a8u] at h;obtain⟨rfl,rfl,rfl⟩:=h;match l,hb with
  | x::l,hb =>
   obtain⟨⟨e,h1,h2⟩,h3⟩:=hb;exact⟨⟨by rw[e];exact h1,Rd.aE hS (λ _ _=>rfl) _ h2⟩,nF hS hB hr h3 hc⟩
 | .o τ::ks,c0::cs,v::ds,n,n',r,os,l,fp,h,hb,hc=>by
  simp only[bL] at h;split at h;case h_2=>cases h
  case h_1 hv =>
  split at h;case h_2=>cases h
  case h_1 r1 Th n1 hr =>
  simp only[a8r,a8u] at h;obtain⟨rfl,rfl,rfl⟩:=h;match l,hb with
  | x::l,hb =>
   obtain⟨f1,f2,rfl,⟨e,h1,h2⟩,h3⟩:=hb;exact⟨hc.1,nF hS hB hr h3 hc.2⟩
 | .p j::ks,c0::cs,ds,n,n',r,os,l,fp,h,hb,hc=>by
  simp only[bL] at h;split at h;case h_2=>cases h
  case h_1 id =>
  split at h;case h_2=>cases h
  case h_1 i hi =>
  split at h;case h_2=>cases h
  case h_1 r1 Th n1 YW hr =>
  have YW:=a8s YW;subst YW;simp only[a8r,a8u] at h;obtain⟨rfl,rfl,rfl⟩:=h;match l,hb with
  | x::l,hb =>
   have hb:x = .pointer (some ⟨B j,0,none⟩)/\jd w S B ks ds l fp:=by cases ds<;>exact hb
   have hc:aI (C1 c G' lk' w) (dx n (fh ks ds)) (ri ks l):=by cases ds<;>exact hc
   obtain⟨q1,q2⟩:=hB j i hi;exact⟨⟨B j,q1,hb.1,q2⟩,nF hS hB hr hb.2 hc⟩
  | [],hb=>cases ds<;>cases hb
 | [],_::_,_,_,_,_,_,_,_,h,_,_=>by simp[bL] at h
 | [],[],_::_,_,_,_,_,_,_,h,_,_=>by simp[bL] at h
 | .d _::_,[],_,_,_,_,_,_,_,h,_,_=>by simp[bL] at h
 | .o _::_,[],_,_,_,_,_,_,_,h,_,_=>by simp[bL] at h
 | .p _::_,[],ds,_,_,_,_,_,_,h,_,_=>by cases ds<;>simp[bL] at h
 | .d _::_,_::_,[],_,_,_,_,_,_,h,_,_=>by simp[bL] at h
 | .o _::_,_::_,[],_,_,_,_,_,_,h,_,_=>by simp[bL] at h
theorem rX{m:List (Nat×Nat)}:∀ {ks:List CK} {cs:List AV} {ds:List TV} {n n':Nat} {r:List AV} {os:List (Nat×au)},bL m ks cs ds n=some (r,os,n')->os=bR n (fh ks ds)/\n'=n+(fh ks ds).length
 | [],[],[],n,n',r,os,h=>by
  simp only[bL,a8r,a8u] at h;obtain⟨rfl,rfl,rfl⟩:=h;exact⟨rfl,rfl⟩
 | .d τ::ks,c0::cs,v::ds,n,n',r,os,h=>by
  simp only[bL] at h;split at h;case h_2=>cases h
  case h_1 hv =>
  split at h;case h_2=>cases h
  case h_1 r1 Th n1 hr =>
  simp only[a8r,a8u] at h;obtain⟨rfl,rfl,rfl⟩:=h;obtain⟨e1,e2⟩:=rX hr;exact⟨e1,e2⟩
 | .o τ::ks,c0::cs,v::ds,n,n',r,os,h=>by
  simp only[bL] at h;split at h;case h_2=>cases h
  case h_1 hv =>
  split at h;case h_2=>cases h
  case h_1 r1 Th n1 hr =>
  simp only[a8r,a8u] at h;obtain⟨rfl,rfl,rfl⟩:=h;obtain⟨e1,e2⟩:=rX hr;exact⟨by rw[e1];rfl,by rw[e2];simp[fh];omega⟩
 | .p j::ks,c0::cs,ds,n,n',r,os,h=>by
  simp only[bL] at h;split at h;case h_2=>cases h
  case h_1 id =>
  split at h;case h_2=>cases h
  case h_1 i hi =>
  split at h;case h_2=>cases h
  case h_1 r1 Th n1 YW hr =>
  simp only[a8r,a8u] at h;obtain⟨rfl,rfl,rfl⟩:=h;obtain⟨e1,e2⟩:=rX hr;cases ds<;>exact⟨e1,e2⟩
 | [],_::_,_,_,_,_,_,h=>by simp[bL] at h
 | [],[],_::_,_,_,_,_,h=>by simp[bL] at h
 | .d _::_,[],_,_,_,_,_,h=>by simp[bL] at h
 | .o _::_,[],_,_,_,_,_,h=>by simp[bL] at h
 | .p _::_,[],ds,_,_,_,_,h=>by cases ds<;>simp[bL] at h
 | .d _::_,_::_,[],_,_,_,_,h=>by simp[bL] at h
 | .o _::_,_::_,[],_,_,_,_,h=>by simp[bL] at h
theorem Inv.a1j{s1:ag}(h1:Inv c G s1 a w){S' X:Nat->Prop}{BD:Nat->Option au}(hk:bH X w w')(hX:∀ b,X b->c.w0.heap.size<=b\/c.X b)(hXS:∀ b,X b->¬ G.S b)
  (hS:∀ b,G.S b->S' b) (Sp:∀ b,S' b->b<w'.heap.size) (UD:∀ b,b<w.heap.size->¬ X b->(S' b↔G.S b))
  (jl:∀ id,(BD id=s1.af id/\∀ o b,s1.af id=some o->dt (G.η id)=some b->¬ X b) \/
   ∃ cs dm,s1.af id=some (.box cs)/\BD id=some (.box dm)/\(∀ b,dt (G.η id)=some b->¬ S' b)/\∃ b l t,G.η id = .pointer (some ⟨b,0,none⟩)/\w'.heap[b]?=some (.cells l.toArray t (0,0))/\∀ (G:Gh) (lk:Nat->Option au),aI (C1 c G lk w') dm l)
  (nR:∀ id τ xs b,s1.af id=some (.aA τ xs)->b∈G.φ id->¬ X b):aV c ⟨S',G.η,G.φ⟩ s1.sl s1.aw.length BD a w':=by
 have ff:∀ id,dX (s1.af id) (BD id):=λ id=>by
  rcases jl id with ⟨e,_⟩|⟨cs,dm,e1,e2,_⟩
  .rw[e];exact dX.refl _
  .rw[e1,e2];exact⟨λ _=>rfl,(λ e τ xs q=>by cases q),(λ q=>by cases q),λ q=>by cases q⟩
 have bQ:∀ b,St c G.S b->w'.heap[b]?=w.heap[b]?:=λ b hb=>by
  rcases hb with hb|hb
  .exact hk.block b (h1.dH b hb) λ q=>hXS b q hb
  .exact hk.block b (a8B hb.1 h1.aE.size) λ q=>(hX b q).elim (λ q=>by omega) hb.2.1
 have hold:∀ id o,BD id=some o->∃ o',s1.af id=some o'/\(∀ τ xs,o = .aA τ xs->o' = .aA τ xs):=λ id o ho=>by
  rcases jl id with ⟨e,_⟩|⟨cs,dm,e1,e2,_⟩
  .exact⟨o,by rw[<-e];exact ho,λ τ xs q=>q⟩
  .rw[e2] at ho;simp only[a8r] at ho;exact⟨_,e1,λ τ xs q=>by rw[q] at ho;cases ho⟩
 have qE:∀ id τ xs,BD id=some (.aA τ xs)->s1.af id=some (.aA τ xs):=λ id τ xs ht=>by
  obtain⟨o',q1,q2⟩:=hold id _ ht;rw[q1,q2 τ xs rfl]
 exact {
  defers:=h1.defers,size:=h1.size
  aE:=h1.aE.trans hk λ i hi hy=>(hX i hy).elim (λ q=>by omega) id
  jN:=h1.jN
  ew:=λ b hb hx=>(UD b (a8B hb h1.aE.size) λ q=>(hX b q).elim (λ q=>by omega) hx).trans (h1.ew b hb hx)
  sX:=λ b hb=>hS b (h1.sX b hb)
  dH:=Sp
  aw:=λ i=>(h1.aw i).mono (λ id _=>⟨ff id,rfl⟩) hS bQ
  aC:=λ id o ho=>by
   rcases jl id with ⟨e,e'⟩|⟨cs,dm,e1,e2,_,b,l,t,e3,e4,e5⟩
   .rw[e] at ho;exact (h1.aC id o ho).mono rfl (λ b hb=>hk.block b (h1.place id o b ho hb).2.2 (e' o b ho hb)) (λ j _=>⟨ff j,rfl⟩) hS bQ
   .rw[e2] at ho;simp only[a8r] at ho;subst ho;exact⟨b,l,t,e3,e4,e5 _ _⟩
  place:=λ id o b ho hb=>by
   obtain⟨o',q1,_⟩:=hold id o ho;obtain⟨p1,p2,p3⟩:=h1.place id o' b q1 hb;refine⟨p1,?_,a8B p3 hk.size⟩;rcases jl id with ⟨e,e'⟩|⟨cs,dm,e1,e2,e3,_⟩
   .exact λ q=>p2 ((UD b p3 (e' o' b q1 hb)).1 q)
   .exact e3 b hb
  apart:=λ id di o o' b ho cF hb cq=>by
   obtain⟨p,q1,_⟩:=hold id o ho;obtain⟨p',q2,_⟩:=hold di o' cF;exact h1.apart id di p p' b q1 q2 hb cq
  aM:={
   tr:=λ id τ xs ht=>(h1.aM.tr id τ xs (qE id τ xs ht)).aE λ b hb=>hk.block b (h1.aM.pl id τ xs b (qE id τ xs ht) hb).2.2.1 (nR id τ xs b (qE id τ xs ht) hb)
   nd:=λ id τ xs ht=>h1.aM.nd id τ xs (qE id τ xs ht)
   pl:=λ id τ xs b ht hb=>by
    obtain⟨p1,p2,p3,p4⟩:=h1.aM.pl id τ xs b (qE id τ xs ht) hb;refine⟨p1,λ q=>p2 ((UD b p3 (nR id τ xs b (qE id τ xs ht) hb)).1 q),a8B p3 hk.size,λ i o ho=>?_⟩;obtain⟨o',q1,_⟩:=hold i o ho;exact p4 i o' q1
   ap:=λ id di τ aO xs cI b ht IP=>h1.aM.ap id di τ aO xs cI b (qE id τ xs ht) (qE di aO cI IP) }
  root:=λ id v hr ht=>h1.root id v hr (by
   match hl:BD id,ht with
   | some (.aA τ xs),_=>rw[qE id τ xs hl];rfl)
  fN:=h1.fN
  dy:=λ id v hr ht=>h1.dy id v hr (by
   rcases jl id with ⟨e,_⟩|⟨cs,dm,e1,e2,_⟩
   .rw[<-e];exact ht
   .rw[e1];rfl)
  eM:=h1.eM }
theorem aV.a6O{sl:Nat->AV}{n:Nat}{lk lk2:Nat->Option au}(h:aV c G sl n lk a w)(jl:∀ id,lk2 id=lk id\/∃ cs dm,lk id=some (.box cs)/\lk2 id=some (.box dm)/\∃ b l t,G.η id = .pointer (some ⟨b,0,none⟩)/\w.heap[b]?=some (.cells l.toArray t (0,0))/\aI (C1 c G lk2 w) dm l) :
  aV c G sl n lk2 a w:=by
 have ff:∀ id,dX (lk id) (lk2 id):=λ id=>by
  rcases jl id with e|⟨cs,dm,e1,e2,_⟩
  .rw[e];exact dX.refl _
  .rw[e1,e2];exact⟨λ _=>rfl,(λ e τ xs q=>by cases q),(λ q=>by cases q),λ q=>by cases q⟩
 have hold:∀ id o,lk2 id=some o->∃ o',lk id=some o'/\(∀ τ xs,o = .aA τ xs->o' = .aA τ xs):=λ id o ho=>by
  rcases jl id with e|⟨cs,dm,e1,e2,_⟩
  .exact⟨o,by rw[<-e];exact ho,λ τ xs q=>q⟩
  .rw[e2] at ho;simp only[a8r] at ho;exact⟨_,e1,λ τ xs q=>by rw[q] at ho;cases ho⟩
 have qE:∀ id τ xs,lk2 id=some (.aA τ xs)->lk id=some (.aA τ xs):=λ id τ xs ht=>by
  obtain⟨o',q1,q2⟩:=hold id _ ht;rw[q1,q2 τ xs rfl]
 exact {
  defers:=h.defers,size:=h.size,aE:=h.aE,jN:=h.jN,ew:=h.ew,sX:=h.sX,dH:=h.dH
  aw:=λ i=>(h.aw i).mono (λ id _=>⟨ff id,rfl⟩) (λ _ q=>q) (λ _ _=>rfl)
  aC:=λ id o ho=>by
   rcases jl id with e|⟨cs,dm,e1,e2,b,l,t,e3,e4,e5⟩
   .rw[e] at ho;exact (h.aC id o ho).mono rfl (λ _ _=>rfl) (λ j _=>⟨ff j,rfl⟩) (λ _ q=>q) (λ _ _=>rfl)
   .rw[e2] at ho;simp only[a8r] at ho;subst ho;exact⟨b,l,t,e3,e4,e5⟩
  place:=λ id o b ho hb=>by
   obtain⟨o',q1,_⟩:=hold id o ho;exact h.place id o' b q1 hb
  apart:=λ id di o o' b ho cF hb cq=>by
   obtain⟨p,q1,_⟩:=hold id o ho;obtain⟨p',q2,_⟩:=hold di o' cF;exact h.apart id di p p' b q1 q2 hb cq
  aM:={
   tr:=λ id τ xs ht=>h.aM.tr id τ xs (qE id τ xs ht)
   nd:=λ id τ xs ht=>h.aM.nd id τ xs (qE id τ xs ht)
   pl:=λ id τ xs b ht hb=>by
    obtain⟨p1,p2,p3,p4⟩:=h.aM.pl id τ xs b (qE id τ xs ht) hb;refine⟨p1,p2,p3,λ i o ho=>?_⟩;obtain⟨o',q1,_⟩:=hold i o ho;exact p4 i o' q1
   ap:=λ id di τ aO xs cI b ht IP=>h.aM.ap id di τ aO xs cI b (qE id τ xs ht) (qE di aO cI IP) }
  root:=λ id v hr ht=>h.root id v hr (by
   match hl:lk2 id,ht with
   | some (.aA τ xs),_=>rw[qE id τ xs hl];rfl)
  fN:=h.fN
  dy:=λ id v hr ht=>h.dy id v hr (by
   rcases jl id with e|⟨cs,dm,e1,e2,_⟩
   .rw[<-e];exact ht
   .rw[e1];rfl)
  eM:=h.eM }
theorem BT{m:List (Nat×Nat)}{S:Nat->Prop}{B:Nat->Nat}{lk:Nat->Option au}:∀ {sh:List (List CK)} {k:Nat} {cw:List (List TV)} {n:Nat} {bs ts:List (Nat×au)} {fp:List Nat},oX lk m sh k cw n=some (bs,ts)->fQ w S B k sh cw fp ->
  ∃ uc xs,ts=bR n uc/\cT w (uc.map TV.aD) xs fp/\(∀ u∈uc,u.τ.agg=false) /\
   (∀ j,k<=j->j<k+sh.length->∃ (id:Nat) (dm:List AV) (l:List Value) (t:TypeId),af m j=some id/\(id,au.box dm)∈bs/\w.heap[B j]?=some (.cells l.toArray t (0,0))/\l.length=dm.length) /\
   (∀ p∈bs,∃ (j:Nat) (dm:List AV) (l:List Value) (t:TypeId),k<=j/\j<k+sh.length/\af m j=some p.1/\p.2 = .box dm/\w.heap[B j]?=some (.cells l.toArray t (0,0))/\l.length=dm.length /\
    ∀ (G':Gh) (lk':Nat->Option au),(∀ b,S b->G'.S b)->(∀ j id,af m j=some id->G'.η id = .pointer (some ⟨B j,0,none⟩)/\gm (lk' id)=true)->aI (C1 c G' lk' w) (dx n uc) xs->aI (C1 c G' lk' w) dm l)
 | [],k,[],n,bs,ts,fp,h,hb=>by
  simp only[oX,a8r,a8u] at h;obtain⟨rfl,rfl⟩:=h;exact⟨[],[],rfl,⟨rfl,hb⟩,by simp,λ j h1 h2=>by simp at h2;omega,by simp⟩
 | ks::sh,k,ds::cw,n,bs,ts,fp,h,hb=>by
  simp only[oX] at h;split at h;case h_2=>cases h
  case h_1 id aL =>
  split at h;case h_2=>cases h
  case h_1 cs iY =>
  split at h;case h_2=>cases h
  case h_1 r os n1 hr =>
  split at h;case h_2=>cases h
  case h_1 bs1 ts1 uy =>
  simp only[a8r,a8u] at h;obtain⟨rfl,rfl⟩:=h;obtain⟨l,t,f1,f2,rfl,hw,hB,hbs⟩:=hb;obtain⟨e1,e2⟩:=rX hr;obtain⟨uc,xs,q1,q2,q3,q4,q5⟩:=BT uy hbs;obtain⟨o1,o2,o3⟩:=hB.uc;have V7:∀ {G':Gh} {lk':Nat->Option au},aI (C1 c G' lk' w) (dx n (fh ks ds++uc)) (ri ks l++xs)->aI (C1 c G' lk' w) (dx n (fh ks ds)) (ri ks l)/\aI (C1 c G' lk' w) (dx n1 uc) xs:=λ {G' lk'} q=>by
   rw[x6,<-e2] at q;have hl:(dx n (fh ks ds)).length=(ri ks l).length:=by
    rw[<-o3];have:∀ (us:List TV) (n:Nat),(dx n us).length=us.length:=λ us=>by
     induction us with
     | nil=>intro n;rfl
     | cons u us ih=>intro n;simp[dx,ih]
    exact this _ _
   have h1:=q.take (dx n (fh ks ds)).length;have h2:=q.drop (dx n (fh ks ds)).length;rw[b0X,hl,b0X] at h1;rw[b1m,hl,b1m] at h2;exact⟨h1,h2⟩
  have Zp:l.length=r.length:=by
   have:∀ {ks:List CK} {cs:List AV} {ds:List TV} {n n':Nat} {r:List AV} {os:List (Nat×au)} {l:List Value} {fp:List Nat},bL m ks cs ds n=some (r,os,n')->jd w S B ks ds l fp->l.length=r.length:=by
    intro ks;induction ks with
    | nil =>
     intro cs ds n n' r os l fp h hb;cases cs<;>cases ds<;>simp[bL] at h;obtain⟨rfl,_⟩:=h;cases l with
     | nil=>rfl
     | cons x l=>cases hb
    | cons k0 ks ih =>
     intro cs ds n n' r os l fp h hb;cases l with
     | nil=>cases k0<;>cases ds<;>cases hb
     | cons x l =>
      cases k0 with
      | d τ =>
       cases cs with
       | nil=>simp[bL] at h
       | cons c0 cs =>
        cases ds with
        | nil=>cases hb
        | cons v ds =>
         simp only[bL] at h;split at h;case h_2=>cases h
         case h_1 hv =>
         split at h;case h_2=>cases h
         case h_1 r1 Th n1 hr =>
         simp only[a8r,a8u] at h;obtain⟨rfl,rfl,rfl⟩:=h;obtain⟨_,h2⟩:=hb;simp[ih hr h2]
      | o τ =>
       cases cs with
       | nil=>simp[bL] at h
       | cons c0 cs =>
        cases ds with
        | nil=>cases hb
        | cons v ds =>
         simp only[bL] at h;split at h;case h_2=>cases h
         case h_1 hv =>
         split at h;case h_2=>cases h
         case h_1 r1 Th n1 hr =>
         simp only[a8r,a8u] at h;obtain⟨rfl,rfl,rfl⟩:=h;obtain⟨_,_,_,_,h2⟩:=hb;simp[ih hr h2]
      | p j =>
       cases cs with
       | nil=>cases ds<;>simp[bL] at h
       | cons c0 cs =>
        have hb:x = .pointer (some ⟨B j,0,none⟩)/\jd w S B ks ds l fp:=by cases ds<;>exact hb
        simp only[bL] at h;split at h;case h_2=>cases h
        case h_1 id =>
        split at h;case h_2=>cases h
        case h_1 i hi =>
        split at h;case h_2=>cases h
        case h_1 r1 Th n1 YW hr =>
        simp only[a8r,a8u] at h;obtain⟨rfl,rfl,rfl⟩:=h;simp[ih hr hb.2]
   exact this hr hB
  refine⟨fh ks ds++uc,ri ks l++xs,by rw[Ad,e1,q1,e2],by rw[a9F];exact o1.append q2,λ u hu=>(a8t.1 hu).elim (o2 u) (q3 u),λ j h1 h2=>?_,λ p hp=>?_⟩
  .by_cases hj:j=k
   .subst hj;exact⟨id,r,l,t,aL,b0u ..,hw,Zp⟩
   .obtain⟨di,dm,l',t',g1,g2,g3,g4⟩:=q4 j (by omega) (by simp at h2;omega);exact⟨di,dm,l',t',g1,a9p _ g2,g3,g4⟩
  .rcases a8G.1 hp with rfl|hp
   .exact⟨k,r,l,t,a8C _,by simp,aL,rfl,hw,Zp,λ G' lk' h1 h2 h3=>nF h1 h2 hr hB (V7 h3).1⟩
   .obtain⟨j,dm,l',t',g1,g2,g3,g4,g5,g7,g6⟩:=q5 p hp;exact⟨j,dm,l',t',by omega,by simp;omega,g3,g4,g5,g7,λ G' lk' h1 h2 h3=>g6 G' lk' h1 h2 (V7 h3).2⟩
 | [],_,_::_,_,_,_,_,h,_=>by simp[oX] at h
 | _::_,_,[],_,_,_,_,h,_=>by simp[oX] at h
theorem vT{α:Type}:∀ {l:List (Nat×α)} {k:Nat},(∀ p∈l,p.1≠k)->af l k=none
 | [],k,_=>rfl
 | (j,o)::l,k,h=>by
  rw[vS,a8v (λ e=>h (j,o) (by simp) e.symm)];exact vT λ p hp=>h p (by simp[hp])
theorem BE:∀ (ids:List Nat) (l:List (Nat×au)) (i:Nat),af (fA ids l) i=if i∈ids then none else af l i
 | [],l,i=>by simp[fA]
 | id::r,l,i=>by
  rw[fA,BE r,dP];by_cases h1:i∈r
  .simp[h1]
  .by_cases h2:i=id
   .simp[h1,h2]
   .simp[h1,h2]
theorem Cx{m:List (Nat×Nat)}(h2:(m.map (·.2)).Nodup){j k id:Nat}(hj:af m j=some id)(hk:af m k=some id):j=k:=by
 have e1:=eW hj;have e2:=eW hk;have:(j,id)=(k,id):=by
  clear hj hk;induction m with
  | nil=>cases e1
  | cons p m ih =>
   simp only[a9a,a8V] at h2;rcases a8G.1 e1 with q1|e1
   .rcases a8G.1 e2 with q2|e2
    .rw[q1,q2]
    .exact absurd (a8w.2 ⟨(k,id),e2,by rw[<-q1]⟩) h2.1
   .rcases a8G.1 e2 with q2|e2
    .exact absurd (a8w.2 ⟨(j,id),e1,by rw[<-q2]⟩) h2.1
    .exact ih h2.2 e1 e2
 exact congrArg Prod.fst this
theorem wN{m:List (Nat×Nat)}{k id:Nat}(h:af m k=some id):id∈m.map (·.2):=a8w.2 ⟨_,eW h,rfl⟩
theorem Xk{m:List (Nat×Nat)}{n:Nat}(h1:(m.map (·.1)).Nodup)(hl:m.length=n)(hk:∀ k,k<n->∃ id,af m k=some id):∀ p∈m,p.1<n:=by
 have zA:List.range n ⊆ m.map (·.1):=λ k fe=>by
  obtain⟨id,q⟩:=hk k (a9Z.1 fe);exact a8w.2 ⟨_,eW q,rfl⟩
 have IN:(m.map (·.1)) ⊆ List.range n:=by
  intro x hx;refine b1j λ hn=>?_;have h3:(x::List.range n).Nodup:=a8V.2 ⟨hn,b1V⟩;have h4:(x::List.range n) ⊆ m.map (·.1):=λ y hy=>(a8G.1 hy).elim (λ e=>e ▸ hx) (λ hy=>zA hy);have:=b0P h3 h4;simp at this;omega
 exact λ p hp=>a9Z.1 (IN (a8w.2 ⟨p,hp,rfl⟩))
theorem Vt(hE:bu c.P c.E)(h:Inv c G s a w){o:Oper}{vc:Vc}{s':ag}(hq:Rw c.E s o=some (vc,s'))(dO:vc.ok){Q:Exit->Act->World->Prop} :
  o.wp c.P a w (λ a' w'=>∃ G',Inv c G' s' a' w') Q:=by
 unfold Rw at hq;split at hq;case h_2=>cases hq
 case h_1 d hd =>
 split at hq;case h_2=>cases hq
 case h_1 cl aW =>
 split at hq;case h_2=>cases hq
 case h_1 f fJ =>
 split at hq;case h_2 =>
   cases hq
 case h_1 sk hsk =>
 split at hq;case h_2=>cases hq
 case h_1 m0 hm0 =>
 split at hq;case h_2=>cases hq
 case h_1 cw ids m hm =>
 split at hq;case h_2=>cases hq
 case h_1 a2P =>
 split at hq;case h_2=>cases hq
 case h_1 Z9 has =>
 split at hq;case h_2=>cases hq
 case h_1 pre res ej hc =>
 split at hq;case h_2=>cases hq
 case h_1 bs ts nV =>
 split at hq;case h_2=>cases hq
 case h_1 Dq =>
 simp only[Option.some.injEq,Prod.mk.injEq] at hq;obtain⟨rfl,rfl⟩:=hq;simp only[Bool.and_eq_true] at a2P;obtain⟨MZ,OJ,KP,Zh⟩:=a2P;have MZ:=cZ MZ;have OJ:=cZ OJ;have KP:=cZ KP;have Zh:=Nat.eq_of_beq_eq_true Zh;simp only[Bool.and_eq_true,List.all_eq_true] at Dq;have qC:∀ p∈aU (bD d) res++ts,(ids.foldl ag.gone s).af p.1=none:=λ p hp=>by simpa using Dq.1 p hp
 have nU:=cZ Dq.2;obtain⟨qB,kZ⟩:=hE.PZ f sk Z9 cw pre res ej hsk hc dO;obtain⟨_,QI⟩:=sK hm0;obtain⟨W9,a1B,fa,WQ,VZ,a6r⟩:=Ag h hm MZ;have WQ:=WQ m (jw.refl m);have QI:∀ (i k:Nat),sk.ps[i]?=some (some k)->∃ id,(cl.args.toList.map s.eval)[i]?=some (AV.ptr id 0)/\af m k=some id:=λ i k q=>by
  obtain⟨id,q1,q2⟩:=QI i k q;exact⟨id,q1,W9 k id q2⟩
 have h1:Inv c G (ids.foldl ag.gone s) a w:=tl ids h;have hF:∀ b,b∈fa->sw c G (ids.foldl ag.gone s).af w b:=λ b hb=>GI h (a6r b hb);have yI:∀ k,k<sk.sh.length->∃ (id:Nat) (cs:List AV),af m k=some id/\(ids.foldl ag.gone s).af id=some (.box cs):=λ k hk=>by
  obtain⟨id,cs,q1,q2⟩:=a1B k (Nat.zero_le _) (by simpa using hk);refine⟨id,?_⟩;have aL:id∉ids:=λ hi=>by
   have:∀ {sh:List (List CK)} {k:Nat} {m m':List (Nat×Nat)} {cw:List (List TV)} {ids:List Nat},jM s.af sh k m=some (cw,ids,m')->∀ i∈ids,∀ cs,s.af i≠some (.box cs):=by
    have k9:∀ {ks:List CK} {cs:List AV} {m m':List (Nat×Nat)} {ds:List TV} {ids:List Nat},cJ s.af ks cs m=some (ds,ids,m')->∀ i∈ids,∀ cs,s.af i≠some (.box cs):=by
     intro ks;induction ks with
     | nil =>
      intro cs m m' ds ids ht;cases cs<;>simp[cJ] at ht;obtain⟨_,rfl,_⟩:=ht;simp
     | cons k0 ks ih =>
      intro cs m m' ds ids ht;cases cs with
      | nil=>cases k0<;>simp[cJ] at ht
      | cons v cs =>
       cases k0 with
       | d τ =>
        simp only[cJ] at ht;split at ht;case h_2=>cases ht
        case h_1 y hy zx =>
        split at ht;case h_2=>cases ht
        case h_1 ds1 SO m1 hr =>
        simp only[a8r,a8u] at ht;obtain⟨_,rfl,_⟩:=ht;exact ih hr
       | o τ =>
        simp only[cJ] at ht;split at ht;case h_2=>cases ht
        case h_1 y i hy zx =>
        split at ht;case h_2=>cases ht
        case h_1 ds1 SO m1 hr =>
        simp only[a8r,a8u] at ht;obtain⟨_,rfl,_⟩:=ht;intro j hj Sa;rcases a8t.1 hj with hj|hj
        .unfold eh at hy;split at hy
         .split at hy
          .simp only[a8r,a8u] at hy;obtain⟨_,rfl⟩:=hy;cases hj
          .cases hy
         .split at hy
          .simp only[a8r,a8u] at hy;obtain⟨_,rfl⟩:=hy;cases hj
          .cases hy
         .split at hy
          .rename_i hl;split at hy
           .simp only[a8r,a8u] at hy;obtain⟨_,rfl⟩:=hy;simp only[a8L] at hj;subst hj;rw[hl];simp
           .cases hy
          .cases hy
         .split at hy
          .rename_i hl;split at hy
           .simp only[a8r,a8u] at hy;obtain⟨_,rfl⟩:=hy;simp only[a8L] at hj;subst hj;rw[hl];simp
           .cases hy
          .cases hy
         .cases hy
        .exact ih hr j hj Sa
       | p j =>
        simp only[cJ] at ht;split at ht;case h_2=>cases ht
        case h_1 id =>
        split at ht
        .split at ht
         .exact ih ht
         .cases ht
        .exact ih ht
    intro sh;induction sh with
    | nil =>
     intro k m m' cw ids ht;simp only[jM,a8r,a8u] at ht;obtain⟨_,rfl,_⟩:=ht;simp
    | cons ks sh ih =>
     intro k m m' cw ids ht;simp only[jM] at ht;split at ht;case h_2=>cases ht
     case h_1 id aL =>
     split at ht;case h_2=>cases ht
     case h_1 cs iY =>
     split at ht;case h_2=>cases ht
     case h_1 ds i m1 hr =>
     split at ht;case h_2=>cases ht
     case h_1 a5R SO m2 uy =>
     simp only[a8r,a8u] at ht;obtain⟨_,rfl,_⟩:=ht;intro j hj Sa;rcases a8t.1 hj with hj|hj
     .exact k9 hr j hj Sa
     .exact ih uy j hj Sa
   exact this hm id hi cs q2
  have:∀ (ids:List Nat) (s:ag) (cs:List AV),id∉ids->s.af id=some (.box cs)->∃ dm,(ids.foldl ag.gone s).af id=some (.box dm):=by
   intro ids;induction ids with
   | nil=>intro s cs _ hs;exact⟨cs,hs⟩
   | cons i ids ih =>
    intro s cs hi hs;have dh:id≠i:=λ e=>hi (by simp[e]);refine ih (s.gone i) (cs.map (AV.kill i)) (λ q=>hi (by simp[q])) ?_;rw[yQ,a8v dh,hs];rfl
  obtain⟨dm,q3⟩:=this ids s cs aL q2;exact⟨dm,q1,q3⟩
 generalize UU:ids.foldl ag.gone s=s1 at *
 have eP:∀ k id,af m k=some id->k<sk.sh.length->G.η id = .pointer (some ⟨jx G m k,0,none⟩)/\dt (G.η id)=some (jx G m k):=λ k id hk bm=>by
  obtain⟨di,cs,q1,q2⟩:=yI k bm;rw[hk] at q1;simp only[a8r] at q1;subst q1;obtain⟨b,l,t,k1,_⟩:=h1.aC id _ q2;have:jx G m k=b:=by
   simp only[jx,hk,k1];rfl
  rw[this,k1];exact⟨rfl,rfl⟩
 have jF:=Xk OJ Zh (λ k hk=>by obtain⟨id,_,q,_⟩:=yI k hk;exact⟨id,q⟩);have V3:∀ id,id∈m.map (·.2)->∃ k cs,k<sk.sh.length/\af m k=some id/\s1.af id=some (.box cs):=λ id aL=>by
  obtain⟨⟨k,di⟩,hp,rfl⟩:=a8w.1 aL;have hk:=jF _ hp;have hl:=rW OJ hp;obtain⟨id2,cs,q1,q2⟩:=yI k hk;rw[hl] at q1;simp only[a8r] at q1;subst q1;exact⟨k,cs,hk,hl,q2⟩
 have Ke:∀ j k,j<sk.sh.length->k<sk.sh.length->jx G m j=jx G m k->j=k:=λ j k hj hk e=>by
  obtain⟨idj,csj,j1,j2⟩:=yI j hj;obtain⟨idk,csk,k1,k2⟩:=yI k hk;have:=h1.apart idj idk _ _ (jx G m j) j2 k2 (eP j idj j1 hj).2 (by rw[e];exact (eP k idk k1 hk).2);subst this;exact Cx KP j1 k1
 have PD:∀ k,k<sk.sh.length->(c.w0.heap.size<=jx G m k\/c.X (jx G m k))/\¬ G.S (jx G m k)/\jx G m k<w.heap.size:=λ k hk=>by
  obtain⟨id,cs,k1,k2⟩:=yI k hk;exact h1.place id _ _ k2 (eP k id k1 hk).2
 have a2Q:∀ b∈fa,∀ k,k<sk.sh.length->jx G m k≠b:=λ b hb k hk e=>by
  obtain⟨id,cs,k1,k2⟩:=yI k hk;exact (hF b hb).2.2.2.1 id _ k2 (by rw[<-e];exact (eP k id k1 hk).2)
 have hXo:∀ b,BX sk.sh.length (jx G m) fa b->(c.w0.heap.size<=b\/c.X b)/\¬ G.S b:=λ b hb=>by
  rcases hb with hb|⟨k,hk,rfl⟩
  .exact⟨(hF b hb).1,(hF b hb).2.1⟩
  .exact⟨(PD k hk).1,(PD k hk).2.1⟩
 have rB:∀ b,BX sk.sh.length (jx G m) fa b->¬ St c G.S b:=λ b hb q=>by
  obtain⟨q1,q2⟩:=hXo b hb;rcases q with q|⟨q,q3,_⟩
  .exact q2 q
  .exact q1.elim (λ q=>by omega) q3
 have jE:∀ id o b,id∉m.map (·.2)->s1.af id=some o->dt (G.η id)=some b->¬ BX sk.sh.length (jx G m) fa b:=λ id o b aL ho hb q=>by
  rcases q with q|⟨k,hk,rfl⟩
  .exact (hF b q).2.2.2.1 id _ ho hb
  .obtain⟨di,cs,k1,k2⟩:=yI k hk;have:=h1.apart id di _ _ _ ho k2 hb (eP k di k1 hk).2;subst this;exact aL (wN k1)
 have a2L:∀ id τ xs b,s1.af id=some (.aA τ xs)->b∈G.φ id->¬ BX sk.sh.length (jx G m) fa b:=λ id τ xs b ht hb q=>by
  rcases q with q|⟨k,hk,rfl⟩
  .exact (hF b q).2.2.2.2 id τ xs ht hb
  .obtain⟨di,cs,k1,k2⟩:=yI k hk;exact (h1.aM.pl id τ xs _ ht hb).2.2.2 di _ k2 (eP k di k1 hk).2
 have Aw:∀ id o b,Xv sk.sh s1.af (m.map (·.2)) id=some o->dt (G.η id)=some b->¬ BX sk.sh.length (jx G m) fa b:=λ id o b ho hb=>jE id o b (HT ho).2 (HT ho).1 hb;have a1C:Qb c.P f sk.sh res ej w G.S (jx G m) (cl.args.toList.map a.eval) fa:=by
  cases OH:GG sk.sh with
  | false =>
   have gP:∀ id o,Xv sk.sh s1.af (m.map (·.2)) id=some o->∃ cs,o = .box cs:=λ id o q=>by
    unfold Xv at q;rw[OH] at q;exact (PS q).2.2
   have dJ:=we hE h1 (mf:=m) (λ _ q=>q) (λ id o ho=>(HT ho).1) (λ τ v x y q1 q2=>AI (λ id e τ xs q=>by obtain⟨cs,e⟩:=gP _ _ q;cases e) (λ id τ xs q=>by obtain⟨cs,e⟩:=gP _ _ q;cases e) q1 q2) rB Aw (lk0:=s.af) has (aI.jr (aR h1) cl.args.toList) (aI.jr (aR h) cl.args.toList) QI;exact kZ w G.S (jx G m) _ fa h1.Xw WQ VZ (λ b hb=>⟨(hF b hb).2.2.1,(hF b hb).2.1,a2Q b hb⟩) (λ k hk=>⟨(PD k hk).2.2,(PD k hk).2.1⟩) Ke dJ
  | true =>
   have dJ:=we hE h1 (mf:=m) (S1:=SX G s1.af) (λ _ q => .inl q) (λ id o ho=>(HT ho).1) (λ τ v x y q1 q2=>uI h1.aM h1.aC (λ id o ho=>(HT ho).1) q1 q2) rB Aw (lk0:=s.af) has (aI.jr (aR h1) cl.args.toList) (aI.jr (aR h) cl.args.toList) QI;refine kZ.more OH h1.TM (λ _ q => .inl q) (λ b hb q=>?_) WQ VZ (λ b hb=>⟨(hF b hb).2.2.1,(hF b hb).2.1,a2Q b hb⟩) (λ k hk=>⟨(PD k hk).2.2,(PD k hk).2.1⟩) Ke dJ;rcases q with q|⟨id,e,τ,xs,q1,q2⟩|⟨id,τ,xs,q1,q2⟩
   .exact (hXo b hb).2 q
   .refine jE id _ b (λ aL=>?_) q1 q2 hb;obtain⟨_,cs,_,_,q3⟩:=V3 id aL;rw[q1] at q3;cases q3
   .exact a2L id τ xs b q1 q2 hb
 unfold Oper.wp;rw[hJ aW fJ rfl qB];simp only[Oper.upon];refine Calls.mono (show Qb c.P f sk.sh res ej w G.S (jx G m) (cl.args.toList.map a.eval) fa from a1C) ?_;rintro e w' ⟨x,S',fp,QB,rfl,hk,UC,WR,hS3,hO,hB',cX,nP,hBS⟩;obtain⟨uc,xs,e1,e2,e3,e4,e5⟩:=BT nV hB';let BD:Nat->Option au:=λ i=>match af bs i with
  | some (.box cs)=>some (.box (List.replicate cs.length .any))
  | _=>s1.af i
 have QJ:∀ id,id∈m.map (·.2)->∃ (k:Nat) (dm:List AV),k<sk.sh.length/\af m k=some id/\af bs id=some (.box dm)/\∃ (l:List Value) (t:TypeId),w'.heap[jx G m k]?=some (.cells l.toArray t (0,0))/\l.length=dm.length:=λ id aL=>by
  obtain⟨k,cs,k1,k2,k3⟩:=V3 id aL;obtain⟨di,dm,l,t,g1,g2,g3,g4⟩:=e4 k (Nat.zero_le _) (by simpa using k1);rw[k2] at g1;simp only[Option.some.injEq] at g1;subst g1;have bO:∃ o,af bs id=some o:=by
   cases hl:af bs id with
   | some o=>exact⟨o,rfl⟩
   | none =>
    exfalso;have:∀ {l:List (Nat×au)} {k:Nat},af l k=none->∀ p∈l,p.1≠k:=by
     intro l;induction l with
     | nil=>intro k _ p hp;cases hp
     | cons q l ih =>
      intro k hq p hp;obtain⟨j,o⟩:=q;rw[vS] at hq;split at hq
      .cases hq
      .rename_i dh;rcases a8G.1 hp with rfl|hp
       .exact λ e=>dh e.symm
       .exact ih hq p hp
    exact this hl _ g2 rfl
  obtain⟨o,ho⟩:=bO;obtain⟨j,Sa,l2,t2,_,j2,j3,j4,j5,j6,_⟩:=e5 _ (eW ho);have:j=k:=Cx KP j3 k2;subst this;simp only at j4;subst j4;exact⟨j,Sa,k1,k2,ho,l2,t2,j5,j6⟩
 have a2O:∀ id,id∉m.map (·.2)->af bs id=none:=λ id aL=>vT λ p hp e=>by
  obtain⟨j,_,_,_,_,_,j3,_⟩:=e5 p hp;exact aL (e ▸ wN j3)
 have PM:∀ id,id∉m.map (·.2)->BD id=s1.af id:=λ id aL=>by simp only[BD,a2O id aL]
 have Zd:∀ id k dm,af m k=some id->af bs id=some (.box dm)->BD id=some (.box (List.replicate dm.length .any)):=λ id k dm _ hb=>by simp only[BD,hb]
 have hA:aV c ⟨S',G.η,G.φ⟩ s1.sl s1.aw.length BD a w':=by
  refine Inv.a1j h1 (X:=BX sk.sh.length (jx G m) fa) hk (λ b hb=>(hXo b hb).1) (λ b hb=>(hXo b hb).2) UC WR hS3 (λ id=>?_) a2L;by_cases aL:id∈m.map (·.2)
  .obtain⟨k,dm,q1,q2,q3,l,t,q4,q5⟩:=QJ id aL;obtain⟨_,cs,_,_,q6⟩:=V3 id aL;obtain⟨g1,g2⟩:=eP k id q2 q1;refine .inr ⟨cs,_,q6,Zd id k dm q2 q3,λ b hb=>?_,jx G m k,l,t,g1,q4,λ G' lk'=>?_⟩
   .rw[g2] at hb;simp only[a8r] at hb;subst hb;exact hBS k q1
   .have:∀ (l:List Value),aI (C1 c G' lk' w') (List.replicate l.length .any) l:=λ l=>by
     induction l with
     | nil=>exact trivial
     | cons x l ih=>exact⟨ae,ih⟩
    rw[<-q5];exact this l
  .exact .inl ⟨PM id aL,λ o b ho hb=>jE id o b aL ho hb⟩
 have Zj:∀ p∈aU (bD d) res++ts,p.1∉m.map (·.2):=λ p hp aL=>by
  obtain⟨_,cs,_,_,q⟩:=V3 p.1 aL;rw[qC p hp] at q;cases q
 rw[a8M] at cX;obtain⟨ZZ,Z0,Z1⟩:=cX;rw[a9F,a8M] at nU;obtain⟨dd1,dd2,dd3⟩:=nU;have hFr:Fr c ⟨S',G.η,G.φ⟩ BD w' (fp++QB):=λ b hb=>by
  obtain⟨q1,q2,q3⟩:=nP b hb;have tA:∀ i o,BD i=some o->dt (G.η i)≠some b:=λ i o bV e=>by
   by_cases aL:i∈m.map (·.2)
   .obtain⟨k,dm,g1,g2,_⟩:=QJ i aL;rw[(eP k i g2 g1).2] at e;simp only[a8r] at e;exact q3 k g1 e
   .rw[PM i aL] at bV;rcases q1 with q1|⟨q1,_⟩
    .exact (hF b q1).2.2.2.1 i o bV e
    .have:=(h1.place i o b bV e).2.2;omega
  have hbt:∀ j τ zs,BD j=some (.aA τ zs)->b∉G.φ j:=λ j τ zs hj mj=>by
   by_cases aL:j∈m.map (·.2)
   .obtain⟨k,dm,g1,g2,g3,_⟩:=QJ j aL;rw[Zd j k dm g2 g3] at hj;cases hj
   .rw[PM j aL] at hj;rcases q1 with q1|⟨q1,_⟩
    .exact (hF b q1).2.2.2.2 j τ zs hj mj
    .have:=(h1.aM.pl j τ zs b hj mj).2.2.1;omega
  rcases q1 with q1|⟨q1,q1'⟩
  .exact⟨(hF b q1).1,q2,a8B (hF b q1).2.2.1 hk.size,tA,hbt⟩
  .exact⟨.inl (a9v h1.aE.size q1),q2,q1',tA,hbt⟩
 have IH:∀ j,bD d<=j->c.R j=none:=λ j hj=>by
  cases hr:c.R j with
  | none=>rfl
  | some v=>have:=h.fN j v hr;unfold bD at hj;omega
 obtain⟨ys,wH,M6⟩:=Fu (c:=c) (id:=bD d) hO;obtain⟨G1,lk1,k1,k2,k3,k4,k5⟩:=hA.FT (id:=bD d) wH ZZ (λ b hb=>hFr b (by simp[hb])) (λ p hp=>by
  rw[PM p.1 (Zj p (by simp[hp]))];exact qC p (by simp[hp])) dd1 IH
 rw[e1] at dd2 dd3 qC Zj;obtain⟨G2,lk2,p1,p2,p3,p4,_⟩:=k2.Cn (us:=uc) (cs:=xs) (fp:=QB) (id:=bD d+60) e3 e2 Z0 (k5 QB (λ b hb=>hFr b (by simp[hb])) λ b hb cq=>Z1 b cq b hb rfl) (λ p hp=>by
  rw[k1 p.1];unfold fZ;rw[vT (l:=aU (bD d) res) λ q hq e=>dd3 q.1 (List.mem_map.2 ⟨q,hq,rfl⟩) p.1 (List.mem_map.2 ⟨p,hp,rfl⟩) e];simp only;rw[PM p.1 (Zj p (by simp[hp]))];exact qC p (by simp[hp])) dd2 (λ j hj=>IH j (by omega))
 have a6H:VR c G2 lk2 w' (iH (bD d) res) x:=M6 G2 lk2 (k4.imp λ u y _ hy=>hy.ext p3);have xB:=aV.put (d:=some d) p2 a6H;have a2R:∀ i,ag.af { aw:=s1.aw.set d (iH (bD d) res),aC:=bs++(aU (bD d) res++ts)++fA (m.map (·.2)) s1.aC } i=fZ bs (fZ (aU (bD d) res) (fZ ts (λ i=>if i∈m.map (·.2) then none else s1.af i))) i:=λ i=>by
  show af (bs++(aU (bD d) res++ts)++fA (m.map (·.2)) s1.aC) i=_;rw[a8Y,oQ,show af (aU (bD d) res++ts++fA (m.map (·.2)) s1.aC)=fZ (aU (bD d) res) (fZ ts (λ i=>if i∈m.map (·.2) then none else s1.af i)) from funext λ j=>by
   rw[a8Y,oQ,show af (ts++fA (m.map (·.2)) s1.aC)=fZ ts (λ i=>if i∈m.map (·.2) then none else s1.af i) from funext λ j=>by
    rw[oQ,show af (fA (m.map (·.2)) s1.aC)=(λ i=>if i∈m.map (·.2) then none else s1.af i) from funext λ j=>BE _ _ j]]]
 generalize bQ:({ aw:=s1.aw.set d (iH (bD d) res),aC:=bs++(aU (bD d) res++ts)++fA (m.map (·.2)) s1.aC }:ag)=s2 at *
 have a6y:∀ i,lk2 i=fZ ts (fZ (aU (bD d) res) BD) i:=λ i=>by
  rw[p1 i,e1];unfold fZ;rw[k1 i];rfl
 have PO:∀ i,i∉m.map (·.2)->s2.af i=lk2 i:=λ i aL=>by
  rw[a2R i,a6y i];unfold fZ;rw[a2O i aL,PM i aL];simp only[if_neg aL];cases hV:af (aU (bD d) res) i with
  | none=>rfl
  | some o =>
   rw[vT (l:=ts) λ q hq e=>dd3 i (a8w.2 ⟨(i,o),eW hV,rfl⟩) q.1 (a8w.2 ⟨q,by rw[<-e1];exact hq,rfl⟩) e.symm]
 have ep:∀ i,i∈m.map (·.2)->∃ k dm,k<sk.sh.length/\af m k=some i/\af bs i=some (.box dm)/\lk2 i=some (.box (List.replicate dm.length .any))/\s2.af i=some (.box dm)/\G2.η i = .pointer (some ⟨jx G m k,0,none⟩):=λ i aL=>by
  obtain⟨k,dm,q1,q2,q3,_⟩:=QJ i aL;have YK:=Zd i k dm q2 q3;obtain⟨r1,r2,_⟩:=(k3.trans p3).Xm i _ YK;refine⟨k,dm,q1,q2,q3,r1,?_,by rw[r2];exact (eP k i q2 q1).1⟩;rw[a2R i];unfold fZ;rw[q3]
 have ff:∀ i,dX (lk2 i) (s2.af i):=λ i=>by
  by_cases aL:i∈m.map (·.2)
  .obtain⟨k,dm,_,_,_,q4,q5,_⟩:=ep i aL;rw[q4,q5];exact⟨λ _=>rfl,(λ e τ xs q=>by cases q),(λ q=>by cases q),λ q=>by cases q⟩
  .rw[PO i aL];exact dX.refl _
 have a4k:=aV.a6O (lk2:=s2.af) xB (λ i=>by
  by_cases aL:i∈m.map (·.2)
  .obtain⟨k,dm,q1,q2,q3,q4,q5,q6⟩:=ep i aL;obtain⟨j,Sa,l,t,_,j2,j3,j4,j5,_,j7⟩:=e5 _ (eW q3);have:j=k:=Cx KP j3 q2;subst this;simp only[au.box.injEq] at j4;subst j4;refine .inr ⟨_,_,q4,q5,jx G m j,l,t,q6,j5,?_⟩;refine j7 G2 s2.af (λ b hb=>by rw[p3.S,k3.S];exact hb) (λ j' id Hc=>?_) (p4.imp λ u y _ hy=>hy.mono (λ i _=>⟨ff i,rfl⟩) (λ _ q=>q) (λ _ _=>rfl));obtain⟨k',a8b,g1,g2,_,_,g5,g6⟩:=ep id (wN Hc);have:j'=k':=Cx KP Hc g2;subst this;exact⟨g6,by rw[g5];rfl⟩
  .exact .inl (PO i aL))
 refine⟨G2,?_⟩;unfold Inv;rw[hd,<-bQ,show ag.sl { aw:=s1.aw.set d (iH (bD d) res),aC:=bs++(aU (bD d) res++ts)++fA (m.map (·.2)) s1.aC }=iu s1.aw.length s1.sl (some d) (iH (bD d) res) from nJ s1.aw d _ _,
  show ({ aw:=s1.aw.set d (iH (bD d) res),aC:=bs++(aU (bD d) res++ts)++fA (m.map (·.2)) s1.aC }:ag).aw.length=s1.aw.length from by simp,bQ]
 exact a4k
end
theorem xu(id:Nat)(u:AV):∀ l:List AV,AV.ML id u l=l.map (AV.Df id u)
 | []=>rfl
 | v::r=>congrArg _ (xu id u r)
section
variable {c:Ctx} {G:Gh} {s:ag} {a:Act} {w w':World}
theorem a0h{lk:Nat->Option au}{id:Nat}{e:TypeId}{τ:Ty}{xs:List τ.den}(ho:OR c G lk w id (.row e τ xs)){S':Nat->Prop}(hS:∀ b,G.S b->S' b)(hb:∀ b,dt (G.η id)=some b->S' b) :
  Rd w S' (Ty.aD (.slice τ) xs) [G.η id]:=by
 obtain⟨l,h1,h2,h3⟩:=ho;exact PU h1 h2 h3 hS hb
theorem C1.Df{lk lk':Nat->Option au}{id:Nat}{e:TypeId}{τ:Ty}{xs:List τ.den}(aL:lk id=some (.row e τ xs))(ho:OR c G lk w id (.row e τ xs)){S':Nat->Prop}(hS:∀ b,G.S b->S' b)(hb:∀ b,dt (G.η id)=some b->S' b)
  (bO:∀ j,j≠id->dX (lk j) (lk' j)) {v:AV} {x:Value} (h:C1 c G lk w v x):C1 c ⟨S',G.η,G.φ⟩ lk' w (AV.Df id (.aK ⟨.slice τ,xs⟩) v) x:=by
 have aE:(∀ j,v.refs j=true->j≠id)->C1 c ⟨S',G.η,G.φ⟩ lk' w v x:=λ hr=>h.mono (λ j hj=>⟨bO j (hr j hj),rfl⟩) hS (λ _ _=>rfl);cases v with
 | row i =>
  simp only[AV.Df];split
  .rename_i hi;have hi:=a8s hi;subst hi;refine⟨rfl,?_⟩;rw[h.1];exact a0h ho hS hb
  .rename_i hi;refine aE λ j hj=>?_;simp only[AV.refs] at hj;have:=a8s hj;intro e;subst this e;simp at hi
 | dN i k off =>
  simp only[AV.Df];split
  .trivial
  .rename_i hi;refine aE λ j hj=>?_;simp only[AV.refs] at hj;have:=a8s hj;intro e;subst this e;simp at hi
 | ptr i off =>
  refine aE λ j hj=>?_;simp only[AV.refs] at hj;have:=a8s hj;intro e;subst this e;obtain⟨b,_,_,h3⟩:=h;rw[aL] at h3;cases h3
 | agg cs=>exact h.elim
 | fO cs=>exact h.elim
 | cM f cs=>exact h.elim
 | fV v=>exact aE λ j hj=>by cases hj
 | any=>trivial
 | dG=>exact h
 | aK u=>exact aE λ j hj=>by cases hj
 | nil=>exact aE λ j hj=>by cases hj
 | cO u=>exact aE λ j hj=>by cases hj
 | fn f=>exact aE λ j hj=>by cases hj
 | mp i =>
  refine aE λ j hj=>?_;simp only[AV.refs] at hj;have:=a8s hj;intro e;subst this e;have h3:=h.2.1;rw[aL] at h3;cases h3
 | aA i =>
  refine aE λ j hj=>?_;simp only[AV.refs] at hj;have:=a8s hj;intro e;subst this e;have h1:=h.1;rw[aL] at h1;cases h1
 | sub i k o z =>
  refine aE λ j hj=>?_;simp only[AV.refs] at hj;have:=a8s hj;intro e;subst this e;have h1:=h.1;rw[aL] at h1;cases h1
 | dW i k o z =>
  refine aE λ j hj=>?_;simp only[AV.refs] at hj;have:=a8s hj;intro e;subst this e;have h1:=h.1;rw[aL] at h1;cases h1
theorem xr(id:Nat)(u:AV):∀ l:List AV,AV.MJ id u l=l.map (AV.Ao id u)
 | []=>rfl
 | v::r=>congrArg _ (xr id u r)
theorem C1.Ao{lk lk':Nat->Option au}{id:Nat}{τ:Ty}{xs:List τ.den}(aL:lk id=some (.aA τ xs))(hT:gG w (G.η id) τ xs (G.φ id)){S':Nat->Prop}(hS:∀ b,G.S b->S' b)(hb:∀ b∈G.φ id,S' b)
  (bO:∀ j,j≠id->dX (lk j) (lk' j)) {v:AV} {x:Value} (h:C1 c G lk w v x):C1 c ⟨S',G.η,G.φ⟩ lk' w (AV.Ao id (.aK ⟨.slice τ,xs⟩) v) x:=by
 have aE:(∀ j,v.refs j=true->j≠id)->C1 c ⟨S',G.η,G.φ⟩ lk' w v x:=λ hr=>h.mono (λ j hj=>⟨bO j (hr j hj),rfl⟩) hS (λ _ _=>rfl);have other:∀ i:Nat,(Nat.beq i id=false\/cS (lk i)=false)->(∀ j,v.refs j=true->Nat.beq i j=true)->C1 c ⟨S',G.η,G.φ⟩ lk' w v x:=λ i hi hr=>aE λ j hj e=>by
  have q:=a8s (hr j hj);subst q;subst e;rcases hi with hi|hi
  .simp at hi
  .rw[aL] at hi;cases hi
 cases v with
 | aA i =>
  simp only[AV.Ao];split
  .rename_i hi;have hi:=a8s hi;subst hi;obtain⟨_,l,h2,_⟩:=h;exact⟨rfl,hT.rd h2 hb⟩
  .rename_i hi;exact other i (.inl hi) λ j hj=>hj
 | sub i k o z =>
  simp only[AV.Ao];split
  .trivial
  .rename_i hi;exact other i (.inl hi) λ j hj=>hj
 | dW i k o z =>
  simp only[AV.Ao];split
  .trivial
  .rename_i hi;exact other i (.inl hi) λ j hj=>hj
 | row i=>exact other i (.inr (pw h.2.1)) λ j hj=>hj
 | dN i k off =>
  refine other i (.inr ?_) λ j hj=>hj;obtain⟨b,n,cap,e,aO,cI,_,h3,_⟩:=h;rw[h3];rfl
 | ptr i off =>
  refine other i (.inr ?_) λ j hj=>hj;obtain⟨b,_,_,h3⟩:=h;match hl:lk i,h3 with
  | some (.box _),_=>rfl
 | mp i=>exact other i (.inr (DZ h.2.1)) λ j hj=>hj
 | agg cs=>exact h.elim
 | fO cs=>exact h.elim
 | cM f cs=>exact h.elim
 | fV v=>exact aE λ j hj=>by cases hj
 | any=>trivial
 | dG=>exact h
 | aK u=>exact aE λ j hj=>by cases hj
 | nil=>exact aE λ j hj=>by cases hj
 | cO u=>exact aE λ j hj=>by cases hj
 | fn f=>exact aE λ j hj=>by cases hj
structure Fx(F:AV->AV):Prop where
 aK:∀ v,F (.aK v) = .aK v
 agg:∀ cs,F (.agg cs) = .agg (cs.map F)
 fO:∀ cs,F (.fO cs) = .fO (cs.map F)
 cM:∀ f cs,F (.cM f cs) = .cM f (cs.map F)
 any:F .any = .any
 aA:∀ i,(∃ u,F (.aA i) = .aK u)\/F (.aA i) = .aA i
 cO:∀ v,F (.cO v) = .cO v
section
variable {F:AV->AV} {G':Gh} {lk lk':Nat->Option au} (hF:Fx F) (hC:∀ v x,C1 c G lk w v x->C1 c G' lk' w (F v) x) (hS:∀ b,G.S b->G'.S b)
include hF hC hS
theorem CR.fx{v:AV}{x:Value}(h:CR c G lk w v x):CR c G' lk' w (F v) x:=by
 rcases h.inv with ⟨u,rfl,h1⟩|⟨cs,l,rfl,rfl,h1⟩|h1
 .rw[hF.aK];exact dv.mono h1 hS (λ _ _=>rfl)
 .rw[hF.agg];exact⟨l,rfl,aI.dR _ (h1.imp λ u y _ hy=>hC u y hy)⟩
 .exact (hC _ _ h1).TT
theorem VR.fx{v:AV}{x:Value}(h:VR c G lk w v x):VR c G' lk' w (F v) x:=by
 have key:C1 c G lk w v x->VR c G' lk' w (F v) x:=λ q=>(hC v x q).eS;cases v with
 | aK u=>rw[hF.aK];exact dv.mono h hS (λ _ _=>rfl)
 | agg cs =>
  obtain⟨l,rfl,h2⟩:=h;rw[hF.agg];exact⟨l,rfl,aI.dR _ (h2.imp λ u y _ hy=>hC u y hy)⟩
 | fO vs =>
  obtain⟨l,rfl,h2⟩:=h;rw[hF.fO];refine⟨l,rfl,aI.dR _ (h2.imp λ u y _ hy=>?_)⟩;cases u with
  | any=>rw[hF.any];trivial
  | aK v=>rw[hF.aK];exact dv.mono hy hS (λ _ _=>rfl)
  | aA i =>
   have q:=hC (.aA i) y hy;rcases hF.aA i with ⟨u,e⟩|e<;>rw[e] at q ⊢
   .exact q.eS
   .exact q
  | agg cs =>
   obtain⟨l,rfl,h2⟩:=hy;rw[hF.agg];exact⟨l,rfl,aI.dR _ (h2.imp λ u y _ hy=>hC u y hy)⟩
  | cO v =>
   have q:=hC (.cO v) y hy;rw[hF.cO] at q ⊢;exact q
  | _=>exact hy.elim
 | cM f cs =>
  obtain⟨l,rfl,h2⟩:=h;rw[hF.cM];exact⟨l,rfl,aI.dR _ (h2.imp λ u y _ hy=>CR.fx hF hC hS hy)⟩
 | any=>rw[hF.any];trivial
 | _=>exact key h
end
theorem a1z(id:Nat)(u:TV):Fx (AV.Df id (.aK u)):=⟨λ _=>rfl,λ cs=>by rw[AV.Df,xu],λ cs=>by rw[AV.Df,xu],λ f cs=>by rw[AV.Df,xu],rfl,λ i => .inr rfl,λ _=>rfl⟩
theorem a1y(id:Nat)(u:TV):Fx (AV.Ao id (.aK u)):=⟨λ _=>rfl,λ cs=>by rw[AV.Ao,xr],λ cs=>by rw[AV.Ao,xr],λ f cs=>by rw[AV.Ao,xr],rfl,λ i=>by
 simp only[AV.Ao];split
 .exact .inl ⟨u,rfl⟩
 .exact .inr rfl,λ _=>rfl⟩
def au.dY(F:AV->AV):au->au
 | .box cs => .box (cs.map F)
 | o=>o
theorem Inv.fix(h:Inv c G s a w)(id:Nat)(F:AV->AV)(hF:Fx F)(B:Nat->Prop)(hB:∀ b,B b->(c.w0.heap.size<=b\/c.X b)/\b<w.heap.size/\(∀ i o,i≠id->s.af i=some o->dt (G.η i)≠some b)/\∀ i τ xs,i≠id->s.af i=some (.aA τ xs)->b∉G.φ i)
  (hC:∀ lk',(∀ j,j≠id->dX (s.af j) (lk' j))->∀ v x,C1 c G s.af w v x->C1 c ⟨λ b=>G.S b\/B b,G.η,G.φ⟩ lk' w (F v) x) :
  Inv c ⟨λ b=>G.S b\/B b,G.η,G.φ⟩ { aw:=s.aw.map F,aC:=(bA id s.aC).map λ p=>(p.1,p.2.dY F) } a w:=by
 have hS:∀ b,G.S b->G.S b\/B b:=λ b hb => .inl hb;have bO:∀ i,ag.af { aw:=s.aw.map F,aC:=(bA id s.aC).map λ p=>(p.1,p.2.dY F) } i=(if i=id then none else s.af i).map (au.dY F):=by
  intro i;show af ((bA id s.aC).map _) i=_;rw[CA,dP];rfl
 have ff:∀ j,j≠id->dX (s.af j) (ag.af { aw:=s.aw.map F,aC:=(bA id s.aC).map λ p=>(p.1,p.2.dY F) } j):=by
  intro j hj;rw[bO,a8v hj];refine⟨λ hh=>?_,λ e τ xs hh=>⟨e,xs,by rw[hh];rfl,a8C _⟩,λ hh=>?_,λ hh=>?_⟩
  .match hq:s.af j,hh with
   | some (.box cs),_=>rfl
  .match hq:s.af j,hh with
   | some (.aA τ xs),_=>rfl
  .match hq:s.af j,hh with
   | some (.map m),_=>rfl
 have hC:=hC _ ff;have hinv:∀ i o,ag.af { aw:=s.aw.map F,aC:=(bA id s.aC).map λ p=>(p.1,p.2.dY F) } i=some o->i≠id/\∃ o',s.af i=some o'/\o=o'.dY F:=λ i o bV=>by
  rw[bO] at bV;simp only[a8Z] at bV;obtain⟨o',bV,rfl⟩:=bV;by_cases hi:i=id
  .simp[hi] at bV
  .rw[a8v hi] at bV;exact⟨hi,o',bV,rfl⟩
 exact {
  defers:=h.defers
  size:=by rw[h.size];simp
  aE:=h.aE
  jN:=h.jN
  ew:=λ b hbl hx=>⟨λ hh=>by
   rcases hh with hh|hh
   .exact (h.ew b hbl hx).1 hh
   .exact (hB b hh).1.elim (λ q=>by omega) (λ q=>absurd q hx),λ hh => .inl ((h.ew b hbl hx).2 hh)⟩
  sX:=λ b hh => .inl (h.sX b hh)
  dH:=λ b hh=>by
   rcases hh with hh|hh
   .exact h.dH b hh
   .exact (hB b hh).2.1
  aw:=λ i=>by
   have he:ag.sl { aw:=s.aw.map F,aC:=(bA id s.aC).map λ p=>(p.1,p.2.dY F) } i=F (s.sl i):=by
    simp only[ag.sl,a8D,a9R];cases s.aw[i]? with
    | none=>exact hF.any.symm
    | some v=>rfl
   rw[he];exact VR.fx hF hC hS (h.aw i)
  aC:=λ i o bV=>by
   obtain⟨hi,o',dM,rfl⟩:=hinv i o bV;have cF:=h.aC i o' dM;cases o' with
   | box cs =>
    obtain⟨b,l,t,k1,k2,k3⟩:=cF;exact⟨b,l,t,k1,k2,aI.dR _ (k3.imp λ u y _ hy=>hC u y hy)⟩
   | row e2 iS kG =>
    obtain⟨l,k1,k2,k3⟩:=cF;exact⟨l,k1,cP.aE hS (λ _ _=>rfl) _ k2,k3⟩
   | aA iS kG=>trivial
   | map m=>exact cF
  place:=λ i o b bV fW=>by
   obtain⟨hi,o',dM,rfl⟩:=hinv i o bV;obtain⟨q1,q2,q3⟩:=h.place i o' b dM fW;exact⟨q1,λ hs=>hs.elim q2 λ hs=>(hB b hs).2.2.1 i o' hi dM fW,q3⟩
  apart:=λ i j o o2 b bV Fb tA mj=>by
   obtain⟨_,o',dM,rfl⟩:=hinv i o bV;obtain⟨_,o2',a6v,rfl⟩:=hinv j o2 Fb;exact h.apart i j o' o2' b dM a6v tA mj
  aM:=by
   have hold:∀ j iS kG,ag.af { aw:=s.aw.map F,aC:=(bA id s.aC).map λ p=>(p.1,p.2.dY F) } j=some (.aA iS kG)->j≠id/\s.af j=some (.aA iS kG):=λ j iS kG k=>by
    obtain⟨hj,o',Fb,e⟩:=hinv j _ k;refine⟨hj,?_⟩;match o',e with
    | .aA ..,e=>rw[Fb,e];rfl
    | .box _,e=>cases e
    | .row ..,e=>cases e
    | .map _,e=>cases e
   exact {
    tr:=λ j iS kG k=>h.aM.tr j iS kG (hold j iS kG k).2
    nd:=λ j iS kG k=>h.aM.nd j iS kG (hold j iS kG k).2
    pl:=λ j iS kG b k cq=>by
     obtain⟨hj,k⟩:=hold j iS kG k;obtain⟨q1,q2,q3,q4⟩:=h.aM.pl j iS kG b k cq;refine⟨q1,λ hs=>hs.elim q2 λ hs=>(hB b hs).2.2.2 j iS kG hj k cq,q3,λ i o bV=>?_⟩;obtain⟨_,o',dM,rfl⟩:=hinv i o bV;exact q4 i o' dM
    ap:=λ j j' iS a3y kG a3u b k k'=>h.aM.ap j j' iS a3y kG a3u b (hold j iS kG k).2 (hold j' a3y a3u k').2 }
  root:=λ i v hr ht=>h.root i v hr (by
   match hl:ag.af { aw:=s.aw.map F,aC:=(bA id s.aC).map λ p=>(p.1,p.2.dY F) } i,ht with
   | some (.aA ..),_ =>
    obtain⟨_,o',bV,e⟩:=hinv i _ hl;match o',e with
    | .aA ..,e=>rw[bV];rfl
    | .box _,e=>cases e
    | .row ..,e=>cases e
    | .map _,e=>cases e)
  fN:=h.fN
  dy:=λ i v hr ht=>h.dy i v hr (by
   match hl:ag.af { aw:=s.aw.map F,aC:=(bA id s.aC).map λ p=>(p.1,p.2.dY F) } i,ht with
   | some (.box _),_ =>
    obtain⟨_,o',bV,e⟩:=hinv i _ hl;match o',e with
    | .box _,e=>rw[bV];rfl
    | .aA ..,e=>cases e
    | .row ..,e=>cases e
    | .map _,e=>cases e)
  eM:=h.eM }
theorem WM(id:Nat)(u:AV)(o:au):o.Df id u=o.dY (AV.Df id u):=by
 cases o<;>simp[au.Df,au.dY,xu]
theorem WL(id:Nat)(u:AV)(o:au):o.Ao id u=o.dY (AV.Ao id u):=by
 cases o<;>simp[au.Ao,au.dY,xr]
theorem Inv.freeze(h:Inv c G s a w)(id:Nat):∃ G',Inv c G' (s.freeze id) a w:=by
 unfold ag.freeze;split
 .rename_i e τ xs aL;have ho:=h.aC id _ aL;rw[xu];simp only[WM];exact⟨_,h.fix id _ (a1z id _) (λ b=>dt (G.η id)=some b) (λ b hb=>by
   obtain⟨q1,_,q3⟩:=h.place id _ b aL hb;exact⟨q1,q3,λ i o hi bV tA=>hi (h.apart i id o _ b bV aL tA hb),λ i τ xs _ k q=>(h.aM.pl i τ xs b k q).2.2.2 id _ aL hb⟩)
   λ lk' hs v x hv=>C1.Df aL ho (λ _ hb => .inl hb) (λ _ hb => .inr hb) hs hv⟩
 .rename_i τ xs aL;rw[xr];simp only[WL];exact⟨_,h.fix id _ (a1y id _) (λ b=>b∈G.φ id) (λ b hb=>by
   obtain⟨q1,_,q3,q4⟩:=h.aM.pl id _ _ b aL hb;exact⟨q1,q3,λ i o _ bV=>q4 i o bV,λ i τ xs hi k q=>hi (h.aM.ap i id _ _ _ _ b k aL q hb)⟩)
   λ lk' hs v x hv=>C1.Ao aL (h.aM.tr id _ _ aL) (λ _ hb => .inl hb) (λ _ hb => .inr hb) hs hv⟩
 .exact⟨G,h⟩
theorem Inv.Bb:∀ (l:List Nat) {G:Gh} {s:ag},Inv c G s a w->∃ G',Inv c G' (l.foldl ag.freeze s) a w
 | [],G,s,h=>⟨G,h⟩
 | i::r,G,s,h=>by
  obtain⟨G',h'⟩:=h.freeze i;exact Inv.Bb r h'
theorem Cy{lk:Nat->Option au}{v:AV}{x:Value}{K:Prop}(hv:VR c G lk w v x)(h:known v K):K:=by
 unfold known at h;split at h
 .rename_i n;obtain⟨_,h1,h2⟩:=hv;refine h ⟨?_,?_⟩
  .have:=h1;simp only[IntKind.min,IntKind.signed,IntKind.bits,b0k] at this;omega
  .have:=h2;simp only[IntKind.max,IntKind.signed,IntKind.bits,b0k] at this;omega
 .rename_i t xs;obtain⟨_,_,_,_,h1,_⟩:=iq hv;exact h h1
 .rename_i xs;obtain⟨s,_,h2,h3⟩:=hv;subst h2;exact h (by rw[a9k];exact h3)
 .exact h
theorem a3B{l:List Operand}{u v:AV}{ev:Operand->AV}(h:l.map ev=[u,v]){lk:Nat->Option au}(cE:∀ x,VR c G lk w (ev x) (a.eval x)):∃ x y,l.map a.eval=[x,y]/\VR c G lk w u x/\VR c G lk w v y:=by
 have:=aI.jr cE l;rw[h] at this;match hl:l.map a.eval,this with
 | [x,y],hh=>exact⟨x,y,rfl,hh.1,hh.2.1⟩
theorem DY(hE:bu c.P c.E)(h:Inv c G s a w){o:Oper}{T:TypeId}{m k x:Operand}(aW:o.op = .mapUpdate T m k x\/o.op = .insert T m k x){vc:Vc}{s':ag}(he:CC c.E s o.dst T m k x=some (vc,s'))(dO:vc.ok){Q:Exit->Act->World->Prop} :
  o.wp c.P a w (λ a' w'=>∃ G',Inv c G' s' a' w') Q:=by
 unfold CC at he;split at he
 .rename_i κ ε hT;split at he
  .rename_i id u v hm hk hx;split at he
   .rename_i m' k' x' aL hku QZ;split at he
    .rename_i f n hmm;simp only[Option.some.injEq,Prod.mk.injEq] at he;obtain⟨rfl,rfl⟩:=he;have e1:=MV.aS hmm;subst e1;have e2:=TV.aS hku;subst e2;have e3:=TV.aS QZ;subst e3;have q1:=aR h m;rw[hm] at q1;have q2:=aR h k;rw[hk] at q2;have q3:=aR h x;rw[hx] at q3;obtain⟨w',r1,r2⟩:=h.CC hE hT aL q1 q2 q3 dO;unfold Oper.wp;have:(execOp a.eval o).run c.P w = .ok .skip w':=by
      rcases aW with aW|aW<;>simp only[execOp,aW,a8N,r1,a8J,a8O]
     rw[this];exact⟨G,Inv.put r2 trivial⟩
    .cases he
   .cases he
  .cases he
 .cases he
theorem Un(hE:bu c.P c.E)(h:Inv c G s a w){o:Oper}{vc:Vc}{s':ag}(he:Qy c.E s o=some (vc,s'))(dO:vc.ok){Q:Exit->Act->World->Prop} :
  o.wp c.P a w (λ a' w'=>∃ G',Inv c G' s' a' w') Q:=by
 unfold Qy at he;split at he
 .rename_i aW;exact DY hE h (.inl aW) he dO
 .rename_i aW;exact DY hE h (.inr aW) he dO
 .rename_i T ad x aW;split at he
  .rename_i τ r hT;have hp:=aR h ad;have hx:=aR h x;have fin:∀ w' G1 (s1:ag),(Instr.storeAt T (a.eval ad) (a.eval x)).run c.P w = .ok () w'->Inv c G1 s1 a w'->s'=s1.put o.dst .any->o.wp c.P a w (λ a' w'=>∃ G',Inv c G' s' a' w') Q:=by
    intro w' G1 s1 hr hi hs;unfold Oper.wp;have:(execOp a.eval o).run c.P w = .ok .skip w':=by simp only[execOp,aW,Sem.run_bind,hr,Result.andThen_ok,Sem.run_pure]
    rw[this];refine⟨G1,?_⟩;rw[hs];exact Inv.put hi trivial
   split at he
   .rename_i id off cE;split at he
    .rename_i cs aL;split at he
     .rename_i new nV;split at he
      .rename_i dm xB;simp only[a8r,a8u] at he;obtain⟨rfl,rfl⟩:=he;rw[cE] at hp;obtain⟨w',k1,k2⟩:=h.store hE hT aL hp ⟨_,nV,hx⟩ xB;exact fin w' _ _ k1 k2 rfl
      .cases he
     .cases he
    .cases he
   .rename_i id i cE;split at he
    .rename_i e' aO xs aL;split at he
     .rename_i y gQ hy;have gQ:=a8U gQ;subst gQ;simp only[a8r,a8u] at he;obtain⟨rfl,rfl⟩:=he;rw[cE] at hp;obtain⟨w',k1,k2⟩:=h.XH hE hT aL hp hx hy;exact fin w' _ _ k1 k2 rfl
     .cases he
    .cases he
   .cases he
  .cases he
 .rename_i cl aW;split at he
  .rename_i fJ;split at he
   .rename_i d T T' hd MQ;split at he
    .rename_i τ b e MP hT;have MP:=a8s MP;subst MP;split at he
     .rename_i id y dJ;split at he
      .rename_i e' aO xs ys aL hy;split at he
       .rename_i cI xy jG;have xy:=a8s xy;have e1:=TV.aS jG;cases e1;subst xy;simp only[a8r,a8u] at he;obtain⟨rfl,rfl⟩:=he;obtain⟨x,z,m1,m2,m3⟩:=a3B (a:=a) (c:=c) (G:=G) (w:=w) dJ (aR h);obtain⟨v',w',G',k1,k2⟩:=h.append hE hT (d:=d) aL m2 m3 hy dO o.type;have G5:cl.argTypes = #[T,T]:=by rw[<-a9o (xs:=cl.argTypes),MQ]
        have Bs:cl.args.map a.eval = #[x,z]:=by rw[<-a9o (xs:=cl.args.map a.eval),b0i,m1]
        unfold Oper.wp;have:(execOp a.eval o).run c.P w = .ok (.value v') w':=by
         simp[execOp,aW,resolve,fJ,invoke,builtin,G5,Bs,k1]
        rw[this];refine⟨G',?_⟩;rw[hd];exact k2
       .cases he
      .cases he
     .cases he
    .cases he
   .cases he
  .cases he
 .cases he
theorem Vf(hE:bu c.P c.E)(h:Inv c G s a w){o0:Oper}{vc:Vc}{v:AV}{ob:Option au}(he:Rh c.E s o0=some (vc,v,ob))(dO:vc.ok){Q:Exit->Act->World->Prop} :
  o0.wp c.P a w (uE c G s.sl s.aw.length s.af o0.dst a w v ob) Q:=by
 unfold Rh at he;split at he;case h_2=>cases he
 case h_1 cl aW =>
 split at he;case h_2=>cases he
 case h_1 f fJ =>
 split at he;case h_2=>cases he
 case h_1 d hd =>
 split at he;case h_2=>cases he
 case h_1 Z9 has =>
 have key:∀ (T:Nat->Prop),(∀ x∈cl.args.toList.map a.eval,∀ q:Addr,x = .pointer (some q)->T q.block)->∀ pre o,c.E.NI f Z9=some (pre,o)->pre.ok->o0.wp c.P a w (λ a' w'=>∃ x S',a'=a.put o0.dst x/\aV c ⟨S',G.η,G.φ⟩ s.sl s.aw.length s.af a w' /\
   (∀ b,G.S b->S' b)/\(∀ b,dt x=some b->w.heap.size<=b/\b<w'.heap.size/\¬ S' b)/\X2 w' S' T x o) Q:=λ T hT pre o hc dO=>by
  obtain⟨qB,kZ⟩:=hE.NI f Z9 pre o hc dO;unfold Oper.wp;rw[hJ aW fJ rfl qB];simp only[Oper.upon];refine (kZ w G.S T _ h.Xw hT (fR hE h (yT (λ _ _ h=>h)) (λ _ h=>h) (λ τ v x y h1 h2=>AI yU vY h1 h2) has (aI.jr (aR h) _))).mono ?_;rintro e w' ⟨x,S',rfl,hk,UC,WR,hb,hx⟩;exact⟨x,S',rfl,aV.grow h hk UC WR,λ b hb=>(UC b (h.dH b hb)).2 hb,hb,hx⟩
 split at he;case h_4=>cases he
 case h_3 pre l hc =>
  split at he;case h_2=>cases he
  case h_1 bQ =>
  simp only[a8r,a8u] at he;obtain⟨rfl,rfl,rfl⟩:=he;refine a9S ?_ (key (St c G.S) (λ x hx q hq=>?_) _ _ hc dO)
  .rintro a' w' ⟨x,S',rfl,hI,hS,hb,ys,rfl,Ds⟩;refine⟨_,S',rfl,hI,ys.toArray.toList,rfl,aI.dR _ (Ds.imp λ r y _ hy=>?_)⟩;obtain⟨bb,v⟩:=r;cases bb with
   | true =>
    obtain⟨b,o,cs,h1,h2,h3,h4⟩:=hy;exact⟨b,o,cs,h1,h2.elim .inl λ h2=>h2.imp (hS b) id,h3,h4⟩
   | false=>exact hy
  .obtain⟨y,hy,rfl⟩:=a8w.1 hx;have h1:=a9c.1 bQ _ (a8w.2 ⟨y,hy,rfl⟩);have h2:=aR h y;generalize s.eval y=v at h1 h2;rw[hq] at h2;cases v with
   | cO u=>obtain⟨b,o,cs,e,h3,_⟩:=h2;cases e;exact h3
   | aK u =>
    obtain⟨τ,z⟩:=u;cases τ with
    | int k=>obtain⟨e,_⟩:=h2;cases e
    | bool=>have e:[Value.pointer (some q)]=[.bool z]:=h2;cases e
    | str=>obtain⟨_,e,_⟩:=h2;cases e
    | slice t=>obtain⟨_,_,e,_⟩:=h2;cases e
    | st s=>obtain⟨_,e,_⟩:=h2;cases e
    | mv t=>cases z with
     | none=>obtain⟨_,_,_,e⟩:=h2;cases e
     | some z=>obtain⟨_,_,e,_⟩:=h2;cases e
    | ptr=>cases h1
   | _=>cases h1
 case h_1 pre cells hc =>
  simp only[a8r,a8u] at he;obtain⟨rfl,rfl,rfl⟩:=he;refine a9S ?_ (key (λ _=>True) (λ _ _ _ _=>trivial) _ _ hc dO);rintro a' w' ⟨x,S',rfl,hI,_,hb,b,l,t,rfl,hh,iY⟩;exact⟨_,S',rfl,hI,⟨d,hd,rfl⟩,⟨b,l,t,rfl,hh,aI.dR _ (iY.imp λ u y _ hy=>hy)⟩,hb⟩
 case h_2 pre e τ xs hc =>
  simp only[a8r,a8u] at he;obtain⟨rfl,rfl,rfl⟩:=he;refine a9S ?_ (key (λ _=>True) (λ _ _ _ _=>trivial) _ _ hc dO);rintro a' w' ⟨x,S',rfl,hI,_,hb,l,h1,h2,h3⟩;exact⟨_,S',rfl,hI,⟨d,hd,rfl⟩,⟨l,h1,h2,h3⟩,hb⟩
theorem HP(hE:bu c.P c.E)(h:Inv c G s a w){o:Oper}{K:ag->Prop}(hr:jc c.E o K s){Q:Exit->Act->World->Prop} :
  o.wp c.P a w (λ a' w'=>∃ G' s',Inv c G' s' a' w'/\K s') Q:=by
 unfold jc at hr;split at hr
 .exact hr.elim
 rename_i E7;obtain⟨G1,h1⟩:=h.Bb (iU c.E s o);generalize (iU c.E s o).foldl ag.freeze s=s1 at *
 simp only at hr;split at hr
 .rename_i vc s' he;exact a9S (λ a' w' ⟨G',hg⟩=>⟨G',s',hg,(Vc.iv hr).2⟩) (Vt hE h1 he (Vc.iv hr).1)
 split at hr
 .rename_i vc s' he;exact a9S (λ a' w' ⟨G',hg⟩=>⟨G',s',hg,(Vc.iv hr).2⟩) (Ue hE h1 he (Vc.iv hr).1)
 split at hr
 .rename_i vc s' he;exact a9S (λ a' w' ⟨G',hg⟩=>⟨G',s',hg,(Vc.iv hr).2⟩) (Un hE h1 he (Vc.iv hr).1)
 .split at hr
  .rename_i vc s' he;exact a9S (λ a' w' ⟨G',hg⟩=>⟨G',s',hg,(Vc.iv hr).2⟩) (Vj hE h1 he (Vc.iv hr).1)
  split at hr
  .rename_i vc v ob he;refine a9S ?_ (Vf hE h1 he (Vc.iv hr).1);intro a' w' hd;obtain⟨G',hl⟩:=Nu h1 E7 hd;exact⟨G',_,hl,(Vc.iv hr).2⟩
  .split at hr
   .rename_i vc v ob hq;obtain⟨dO,hk⟩:=Vc.iv hr;refine a9S ?_ (Fw hE h1 (λ _ _ h=>h) (aR h1) hq dO);intro a' w' hd;obtain⟨G',hl⟩:=Nu h1 E7 hd;refine⟨G',_,hl,?_⟩;split at hk
    .obtain⟨x,S',_,_,hx⟩:=hd;cases ob with
     | none=>exact Cy hx hk
     | some ob =>
      obtain⟨hL,_⟩:=hx;cases ob with
      | box cs=>obtain⟨i,_,rfl⟩:=hL;exact hk
      | row e τ xs=>obtain⟨i,_,rfl⟩:=hL;exact hk
      | aA τ xs=>exact hL.elim
      | map m=>obtain⟨i,_,rfl⟩:=hL;exact hk
    .exact hk
   .exact hr.elim
theorem Ux{t:Array Value}{i:Nat}{b:Bool}(h:t.getD i undef = .bool b):t[i]?=some (.bool b):=by
 rw[a9d] at h;cases hx:t[i]? with
 | none=>rw[hx] at h;simp[undef] at h
 | some v=>rw[hx] at h;simpa using h
theorem E6{ops:Array Oper}{g t:Nat}{b:Bool}(ht:tw ops g=some t)(hx:VR c G s.af w (.aK ⟨.bool,b⟩) (a.eval (.tmp t))):yielded ops a.tmps g=some b:=by
 have hb:[a.eval (.tmp t)]=[.bool b]:=hx;simp only[List.cons.injEq,and_true] at hb;have:=Ux hb;unfold yielded;rw[show (ops[g]?).bind (·.dst)=some t from ht];simp[this]
theorem Bi{ops:Array Oper}{g t:Nat}(ht:tw ops g=some t)(hx:VR c G s.af w .dG (a.eval (.tmp t))):yielded ops a.tmps g=none:=by
 have hb:a.eval (.tmp t)=undef:=hx;have hb:a.tmps.getD t undef=undef:=hb;unfold yielded;rw[show (ops[g]?).bind (·.dst)=some t from ht];rw[Array.getD_eq_getD_getElem?] at hb;cases hx:a.tmps[t]? with
 | none=>simp[hx]
 | some v =>
  rw[hx] at hb;have hv:v=undef:=hb;subst hv;simp[hx,undef]
theorem Inv.slot(h:Inv c G s a w)(t:Nat){b b':Bool}(he:s.eval (.tmp t) = .aK ⟨.bool,b⟩)(hb:b=b'):Inv c G (s.put (some t) (.aK ⟨.bool,b'⟩)) a w:=by
 have:s.put (some t) (.aK ⟨.bool,b'⟩)=s\/(s.put (some t) (.aK ⟨.bool,b'⟩)).sl=s.sl:=by
  right;rw[Wm];funext i;unfold iu;split
  .rename_i hi;obtain⟨h1,h2⟩:=hi;simp only[a8r] at h1;subst h1;rw[<-hb,<-he];rfl
  .rfl
 rcases this with e|e
 .rw[e];exact h
 .unfold Inv;rw[e,PQ,Kk];exact h
theorem yj(hE:bu c.P c.E){ops:Array Oper}{Q:ag->Prop}{o:Oper}{r:List Oper}{kn:List (Nat×Bool)}(h:Inv c G s a w)(hr:ei c.E ops (o::r) kn Q s) :
  if Region.wanted o (yielded ops a.tmps)=true then ∀ Q':Exit->Act->World->Prop,o.wp c.P a w (λ a' w'=>∃ G' s' mw,Inv c G' s' a' w'/\ei c.E ops r mw Q s') Q'
  else ∃ G' s' mw,Inv c G' s' (a.put o.dst undef) w/\ei c.E ops r mw Q s':=by
 have run:∀ (kn:List (Nat×Bool)) (s:ag),Inv c G s a w->jc c.E o (ei c.E ops r kn Q) s->∀ Q':Exit->Act->World->Prop,o.wp c.P a w (λ a' w'=>∃ G' s' mw,Inv c G' s' a' w'/\ei c.E ops r mw Q s') Q':=λ kn s hs cz Q' =>
  a9S (λ a' w' ⟨G',s',h1,h2⟩=>⟨G',s',kn,h1,h2⟩) (HP hE hs cz)
 have skip:∀ (kn:List (Nat×Bool)) (s:ag),Inv c G s a w->ei c.E ops r kn Q (s.put o.dst .dG)->∃ G' s' mw,Inv c G' s' (a.put o.dst undef) w/\ei c.E ops r mw Q s':=λ kn s hs hk =>
  ⟨G,_,kn,Inv.put (v := .dG) hs rfl,hk⟩
 simp only[ei] at hr;split at hr
 .rename_i hg;have hw:Region.wanted o (yielded ops a.tmps)=true:=by simp[Region.wanted,hg]
  rw[a8A hw];exact run kn s h hr
 .rename_i g want hg;split at hr
  .exact hr.elim
  .rename_i t ht;split at hr
   .rename_i b hb;split at hr
    .rename_i b' cE;have hx:=aR h (.tmp t);rw[cE] at hx;have hy:=E6 (s:=s) ht hx;split at hr
     .rename_i fW Bk;have fW:=eq_of_beq fW;subst fW;have hw:Region.wanted o (yielded ops a.tmps)=true:=by simp[Region.wanted,hg,hy];simpa using Bk
      rw[a8A hw];exact run kn s h hr
     .rename_i fW Bk;have fW:=eq_of_beq fW;subst fW;have hw:Region.wanted o (yielded ops a.tmps)=false:=by simp[Region.wanted,hg,hy];simpa using Bk
      rw[hw];exact skip kn s h hr
     .exact hr.elim
    .rename_i cE;have hx:=aR h (.tmp t);rw[cE] at hx;have hy:=Bi (s:=s) ht hx;have hw:Region.wanted o (yielded ops a.tmps)=false:=by simp[Region.wanted,hg,hy]
     rw[hw];exact skip kn s h hr
    .exact hr.elim
   .split at hr
    .rename_i b cE;have hx:=aR h (.tmp t);rw[cE] at hx;have hy:=E6 (s:=s) ht hx;by_cases Bk:b=want
     .have hw:Region.wanted o (yielded ops a.tmps)=true:=by simp[Region.wanted,hg,hy,Bk]
      rw[a8A hw];exact run _ _ (h.slot t cE Bk) (hr.1 Bk)
     .have UG:b = !want:=by cases b<;>cases want<;>simp_all
      have hw:Region.wanted o (yielded ops a.tmps)=false:=by simp[Region.wanted,hg,hy,UG]
      rw[hw];exact skip _ _ (h.slot t cE UG) (hr.2 UG)
    .rename_i cE;have hx:=aR h (.tmp t);rw[cE] at hx;have hy:=Bi (s:=s) ht hx;have hw:Region.wanted o (yielded ops a.tmps)=false:=by simp[Region.wanted,hg,hy]
     rw[hw];exact skip kn s h hr
    .exact hr.elim
theorem wu(hE:bu c.P c.E){ops:Array Oper}{Q:ag->Prop}{Q':Exit->Act->World->Prop}(hQ:∀ G s a w,Inv c G s a w->Q s->Q' .normal a w) :
  ∀ (r:List Oper) (i:Nat) (kn:List (Nat×Bool)) (G:Gh) (s:ag) (a:Act) (w:World),(∀ j o,r[j]?=some o->ops[i+j]?=some o)->Inv c G s a w->ei c.E ops r kn Q s->wpOps c.P ops Q' (List.range' i r.length) a w
 | [],i,kn,G,s,a,w,_,h,hr=>hQ G s a w h hr
 | o::r,i,kn,G,s,a,w,a2Y,h,hr=>by
  have ho:ops[i]?=some o:=a2Y 0 o rfl;have tC:∀ j p,r[j]?=some p->ops[i+1+j]?=some p:=λ j p hj=>by
   have:=a2Y (j+1) p (by simpa using hj);rwa [show i+(j+1)=i+1+j by omega] at this
  simp only[a8F,List.range'_succ,wpOps,ho];have tF:=yj hE h hr;split at tF
  .rename_i hw;rw[a8A hw];exact .inl (a9S (λ a' w' ⟨G',s',mw,h1,h2⟩=>wu hE hQ r (i+1) mw G' s' a' w' tC h1 h2) (tF Q'))
  .rename_i hw;rw[a8v hw];obtain⟨G',s',mw,h1,h2⟩:=tF;exact wu hE hQ r (i+1) mw G' s' _ w tC h1 h2
end
structure Ig where
 DA:Bool
 v:AV
 ob:Option au
def GV(want DA:Bool):AV->Prop
 | .aK ⟨.bool,b⟩=>DA=(b == want)
 | .dG=>DA=false
 | _=>False
def eZ(l:List Oper)(bits:Nat)(s:ag)(o:Oper)(DA:Bool):Prop :=
 match o.guard with
 | none=>DA=true
 | some (g,want)=>∃ t v,bU l g=some t/\Nat.testBit bits g=true/\s.eval (.tmp t)=v/\GV want DA v
def LS(E:Env)(l:List Oper)(m bits:Nat)(s:ag)(o:Oper)(e:Ig):Prop :=
 eZ l bits s o e.DA/\(e.DA=true->∃ vc:Vc,Fv E (Ln l m bits s) (OD l m bits s) o=some (vc,e.v,e.ob)/\vc.ok)/\(e.DA=false->e.v = .dG/\e.ob=none)
def Trace(E:Env)(l:List Oper)(m:Nat)(bK:List Nat):Nat->List Oper->List Ig->ag->ag->Prop
 | _,[],[],s,s'=>s=s'
 | i,o::r,e::es,s,s'=>LS E l m (bK.getD i 0) s o e/\Trace E l m bK (i+1) r es (s.gR o.dst e.v e.ob) s'
 | _,_,_,_,_=>False
def PV{s:ag}{t:Nat}{v:AV}(h:s.eval (.tmp t)=v)(hv:v ≠ .any):s.put (some t) v=s:=by
 have bm:t<s.aw.length:=by
  rcases a8Q t s.aw.length with hl|hl
  .exact hl
  .simp only[ag.eval,a8D,b0w hl,Option.getD_none] at h;exact absurd h.symm hv
 simp only[ag.eval,a8D,a8H bm,b1b] at h;simp only[ag.put];congr 1;subst h;exact List.set_getElem_self bm
def Jc(s:ag)(d:Option Nat):s.gR d .dG none=s.put d .dG:=by cases d<;>rfl
def pg{E:Env}{l:List Oper}{m:Nat}{bK:List Nat}{Q:List (Nat×Bool)->ag->Prop}:∀ {r:List Oper} {i:Nat} {kn:List (Nat×Bool)} {s:ag},j8 E l m bK i r kn Q s ->
  ∃ es mw s',Trace E l m bK i r es s s'/\Q mw s'
 | [],i,kn,s,h=>⟨[],kn,s,rfl,h⟩
 | o::r,i,kn,s,h=>by
  have run:∀ kn,eZ l (bK.getD i 0) s o true->HQ E l m (bK.getD i 0) o (j8 E l m bK (i+1) r kn Q) s->∃ es mw s',Trace E l m bK i (o::r) es s s'/\Q mw s':=by
   intro kn hg hr;unfold HQ at hr;split at hr
   .split at hr
    .rename_i vc v ob hq;obtain⟨es,mw,s',h1,h2⟩:=pg (Vc.iv hr).2;exact⟨⟨true,v,ob⟩::es,mw,s',⟨⟨hg,λ _=>⟨vc,hq,(Vc.iv hr).1⟩,λ h=>(by cases h)⟩,h1⟩,h2⟩
    .exact hr.elim
   .exact hr.elim
  have skip:∀ kn,eZ l (bK.getD i 0) s o false->j8 E l m bK (i+1) r kn Q (s.put o.dst .dG)->∃ es mw s',Trace E l m bK i (o::r) es s s'/\Q mw s':=by
   intro kn hg hr;obtain⟨es,mw,s',h1,h2⟩:=pg hr;exact⟨⟨false, .dG,none⟩::es,mw,s',⟨⟨hg,λ h=>(by cases h),λ _=>⟨rfl,rfl⟩⟩,by rw[Jc];exact h1⟩,h2⟩
  simp only[j8] at h;split at h
  .rename_i hg;exact run kn (by simp[eZ,hg]) h
  .rename_i g want hg;split at h
   .rename_i t ht PH;split at h
    .rename_i b hb;split at h
     .rename_i b' cE;split at h
      .rename_i fW Bk;have fW:=eq_of_beq fW;subst fW;exact run kn (by simp only[eZ,hg];exact⟨t,_,ht,PH,cE,Bk.symm⟩) h
      .rename_i fW Bk;have fW:=eq_of_beq fW;subst fW;exact skip kn (by simp only[eZ,hg];exact⟨t,_,ht,PH,cE,Bk.symm⟩) h
      .exact h.elim
     .rename_i cE;exact skip kn (by simp only[eZ,hg];exact⟨t,_,ht,PH,cE,rfl⟩) h
     .exact h.elim
    .split at h
     .rename_i b cE;by_cases Bk:b=want
      .have h':=h.1 Bk;subst Bk;rw[PV cE (by simp)] at h';exact run _ (by simp only[eZ,hg];exact⟨t,_,ht,PH,cE,by simp[GV]⟩) h'
      .have UG:b = !want:=by cases b<;>cases want<;>simp_all
       have h':=h.2 UG;rw[<-UG,PV cE (by simp)] at h';exact skip _ (by simp only[eZ,hg];exact⟨t,_,ht,PH,cE,by simpa [GV] using Bk⟩) h'
     .rename_i cE;exact skip kn (by simp only[eZ,hg];exact⟨t,_,ht,PH,cE,rfl⟩) h
     .exact h.elim
   .exact h.elim
def du(l:List Oper)(es:List Ig)(s0:ag)(π:List Nat):ag :=
 π.foldl (λ s k=>s.gR (bU l k) (es.getD k ⟨false, .any,none⟩).v (es.getD k ⟨false, .any,none⟩).ob) s0
def Jd(s:ag)(d:Option Nat)(v:AV)(o:Option au):(s.gR d v o).aw.length=s.aw.length:=by cases d<;>simp[ag.gR]
def Ht(l:List Oper)(es:List Ig):∀ (π:List Nat) (s0:ag),(du l es s0 π).aw.length=s0.aw.length
 | [],_=>rfl
 | k::π,s0=>by
  show (du l es (s0.gR _ _ _) π).aw.length=_;rw[Ht l es π,Jd]
def HU(s:ag)(d:Option Nat)(v:AV)(o:Option au):(s.gR d v o).sl=iu s.aw.length s.sl d v:=by
 cases d with
 | none=>funext i;simp[ag.gR,iu]
 | some d=>exact nJ s.aw d v _
def yR(s:ag)(d:Option Nat)(v:AV)(o:Option au)(j:Nat):(s.gR d v o).af j=if d=some j then (match o with
  | some o=>some o
  | none=>s.af j) else s.af j:=by
 cases d with
 | none=>simp[ag.gR]
 | some d =>
  cases o with
  | none =>
   simp only[ag.gR,ag.af,ite_self]
  | some o =>
   show af ((d,o)::s.aC) j=_;rw[de];by_cases h:j=d
   .subst h;simp
   .have:¬ (some d=some j):=by simp;exact λ e=>h e.symm
    rw[a8v h,a8v this];rfl
def fv(l:List Oper)(es:List Ig)(t:Nat):∀ (π:List Nat) (s0:ag),(∀ k∈π,bU l k≠some t)->(du l es s0 π).sl t=s0.sl t/\(du l es s0 π).af t=s0.af t
 | [],_,_=>⟨rfl,rfl⟩
 | k::π,s0,h=>by
  obtain⟨h1,h2⟩:=fv l es t π (s0.gR (bU l k) (es.getD k ⟨false, .any,none⟩).v (es.getD k ⟨false, .any,none⟩).ob) (λ j hj=>h j (by simp[hj]));have hk:=h k (by simp);constructor
  .show (du l es (s0.gR _ _ _) π).sl t=_;rw[h1,HU,iu,a8v (λ hh=>hk hh.1)]
  .show (du l es (s0.gR _ _ _) π).af t=_;rw[h2,yR,a8v hk]
def ug(l:List Oper)(es:List Ig)(t k:Nat)(hk:bU l k=some t):∀ (π:List Nat) (s0:ag),k∈π->π.Nodup->(∀ j∈π,j≠k->bU l j≠some t) ->
  (du l es s0 π).sl t=(if t<s0.aw.length then (es.getD k ⟨false, .any,none⟩).v else s0.sl t) /\
  (du l es s0 π).af t=(match (es.getD k ⟨false, .any,none⟩).ob with
   | some o=>some o
   | none=>s0.af t)
 | [],_,h,_,_=>by simp at h
 | j::π,s0,h,hn,ho=>by
  have rS:=a8V.1 hn;by_cases hj:j=k
  .subst hj;obtain⟨h1,h2⟩:=fv l es t π (s0.gR (bU l j) (es.getD j ⟨false, .any,none⟩).v (es.getD j ⟨false, .any,none⟩).ob) (λ i hi=>ho i (by simp[hi]) (λ e=>by subst e;exact rS.1 hi));constructor
   .show (du l es (s0.gR _ _ _) π).sl t=_;rw[h1,HU,iu];simp[hk]
   .show (du l es (s0.gR _ _ _) π).af t=_;rw[h2,yR,a8A hk]
  .have Hd:=ho j (by simp) hj;obtain⟨h1,h2⟩:=ug l es t k hk π (s0.gR (bU l j) (es.getD j ⟨false, .any,none⟩).v (es.getD j ⟨false, .any,none⟩).ob) (by simpa [Ne.symm hj] using h) rS.2 (λ i hi=>ho i (by simp[hi]));constructor
   .show (du l es (s0.gR _ _ _) π).sl t=_;rw[h1,Jd,HU,iu,a8v (c:=bU l j=some t/\_) (λ hh=>Hd hh.1)]
   .show (du l es (s0.gR _ _ _) π).af t=_;rw[h2];split
    .rfl
    .rw[yR,a8v Hd]
def Oc{l:List Oper}{es:List Ig}{m bits:Nat}{s0:ag}{π π':List Nat}(nj:∀ j k t,j<m->k<m->bU l j=some t->bU l k=some t->j=k)
  (U3:∀ k∈π,k<m) (M8:∀ k∈π',k<m) (hn:π.Nodup) (rS:π'.Nodup) (ha:∀ k,k<m->Nat.testBit bits k=true->k∈π/\k∈π') (t:Nat) (hh:hidden l m bits t=false) :
  (du l es s0 π).sl t=(du l es s0 π').sl t/\(du l es s0 π).af t=(du l es s0 π').af t:=by
 by_cases hex:∃ k,k<m/\bU l k=some t
 .obtain⟨k,hk,hd⟩:=hex;have hb:Nat.testBit bits k=true:=by
   have:=hh;unfold hidden at this;rw[List.any_eq_false] at this;have:=this k (by simpa using hk);simp only[hd] at this;simp only[Nat.beq_refl] at this;simpa using this
  obtain⟨h1,h2⟩:=ha k hk hb;obtain⟨e1,e2⟩:=ug l es t k hd π s0 h1 hn (λ j hj dh As=>dh (nj j k t (U3 j hj) hk As hd));obtain⟨e3,e4⟩:=ug l es t k hd π' s0 h2 rS (λ j hj dh As=>dh (nj j k t (M8 j hj) hk As hd));exact⟨e1.trans e3.symm,e2.trans e4.symm⟩
 .have gP:∀ k,k<m->bU l k≠some t:=λ k hk hd=>hex ⟨k,hk,hd⟩;obtain⟨e1,e2⟩:=fv l es t π s0 (λ k hk=>gP k (U3 k hk));obtain⟨e3,e4⟩:=fv l es t π' s0 (λ k hk=>gP k (M8 k hk));exact⟨e1.trans e3.symm,e2.trans e4.symm⟩
def Ch(acc:List Nat)(k:Nat):∀ (es:List Edge) (s:Nat),Nat.testBit (es.foldl (sf acc) s) k=true->Nat.testBit s k=true\/∃ e∈es,Region.binds .any e=true/\(k=e.on\/Nat.testBit (acc.getD e.on 0) k=true)
 | [],s,h => .inl h
 | e::es,s,h=>by
  simp only[b0x] at h;rcases Ch acc k es _ h with h|⟨e',xy,h⟩
  .unfold sf at h;split at h
   .rename_i hb;simp only[Nat.testBit_or,a9O] at h;rcases h with h|h|h
    .exact .inl h
    .refine .inr ⟨e,by simp,hb, .inl ?_⟩;rw[Nat.one_shiftLeft,Nat.testBit_two_pow] at h;exact (a8U h).symm
    .exact .inr ⟨e,by simp,hb, .inr h⟩
   .exact .inl h
  .exact .inr ⟨e',by simp[xy],h⟩
def uH:∀ (l:List Oper) (acc:List Nat),∃ r,bE l acc=acc++r/\r.length=l.length /\
  ∀ i o,l[i]?=some o->∀ k,Nat.testBit ((acc++r).getD (acc.length+i) 0) k=true->∃ e∈o.after.toList,Region.binds .any e=true/\(k=e.on\/(e.on<acc.length+i/\Nat.testBit ((acc++r).getD e.on 0) k=true))
 | [],acc=>⟨[],by simp[bE],rfl,by simp⟩
 | o::l,acc=>by
  simp only[bE];obtain⟨r,h1,h2,h3⟩:=uH l (acc++[o.after.toList.foldl (sf acc) 0]);refine⟨_::r,by rw[h1,a8Y];rfl,by simp[h2],λ i p hp k hk=>?_⟩;cases i with
  | zero =>
   simp at hp;subst hp;have fe:Nat.testBit (o.after.toList.foldl (sf acc) 0) k=true:=by
    simpa [List.getD_eq_getElem?_getD] using hk
   rcases Ch acc k _ 0 fe with h|⟨e,he,hb,h⟩
   .simp at h
   .refine⟨e,he,hb,h.imp id λ h=>?_⟩;have bm:e.on<acc.length:=by
     rcases a8Q e.on acc.length with hl|hl
     .exact hl
     .simp[a8D,b0w hl] at h
    refine⟨by omega,?_⟩;rw[a8D,a9K bm,<-a8D];exact h
  | succ i =>
   have:=h3 i p (by simpa using hp) k (by
    have e1:(acc++[o.after.toList.foldl (sf acc) 0]).length+i=acc.length+(i+1):=by simp;omega
    rw[e1,a8Y];exact hk)
   obtain⟨e,he,hb,h⟩:=this;refine⟨e,he,hb,h.imp id λ ⟨h1,h2⟩=>⟨by simp at h1;omega,?_⟩⟩;rw[a8Y] at h2;exact h2
def wR:∀ (l:List Nat) (i m0:Nat),m0<=i->lC l i m0<=i+l.length/\m0<=lC l i m0/\∀ j b,l[j]?=some b->lC l i m0<=i+j->b+1=2 ^ (i+j)
 | [],i,m0,h=>by simp[lC];exact h
 | b::l,i,m0,h=>by
  simp only[lC];split
  .rename_i hb;have hb:=a8s hb;obtain⟨h1,h2,h3⟩:=wR l (i+1) m0 (by omega);refine⟨by simp;omega,h2,λ j b' hj hle=>?_⟩;cases j with
   | zero=>simp at hj;subst hj;exact hb
   | succ j=>rw[show i+(j+1)=i+1+j by omega];exact h3 j b' (by simpa using hj) (by omega)
  .obtain⟨h1,h2,h3⟩:=wR l (i+1) (i+1) (a8C _);refine⟨by simp;omega,by omega,λ j b' hj hle=>?_⟩;cases j with
   | zero=>omega
   | succ j=>rw[show i+(j+1)=i+1+j by omega];exact h3 j b' (by simpa using hj) (by omega)
theorem sn(l:List Oper)(es:List Ig)(s0:ag)(π:List Nat)(i:Nat):du l es s0 (π++[i])=(du l es s0 π).gR (bU l i) (es.getD i ⟨false, .any,none⟩).v (es.getD i ⟨false, .any,none⟩).ob:=by
 simp[du,b0T]
theorem P5{E:Env}{l:List Oper}{m:Nat}{bK:List Nat}{s0:ag}:∀ (r:List Oper) (i:Nat) (es wy:List Ig) (s s':ag),Trace E l m bK i r es s s'->(∀ j o,r[j]?=some o->l[i+j]?=some o)->wy.length=i ->
  s=du l (wy++es) s0 (List.range i) ->
  (∀ j o,r[j]?=some o->LS E l m (bK.getD (i+j) 0) (du l (wy++es) s0 (List.range (i+j))) o ((wy++es).getD (i+j) ⟨false, .any,none⟩))/\s'=du l (wy++es) s0 (List.range (i+r.length))
 | [],i,[],wy,s,s',h,_,_,hs=>by
  have h:s=s':=h;subst h;exact⟨by simp,by simpa using hs⟩
 | o::r,i,e::es,wy,s,s',h,hl,h0,hs=>by
  obtain⟨h1,h2⟩:=h;have ho:l[i]?=some o:=hl 0 o rfl;have Kd:(wy++e::es).getD i ⟨false, .any,none⟩=e:=by simp[a8D,<-h0]
  have bQ:s.gR o.dst e.v e.ob=du l ((wy++[e])++es) s0 (List.range (i+1)):=by
   rw[a8Y,b1w,sn,b0Z,Kd,<-hs];simp[bU,ho]
  have ih:=P5 r (i+1) es (wy++[e]) _ s' h2 (λ j p hj=>by
   have:=hl (j+1) p (by simpa using hj);rwa [show i+(j+1)=i+1+j by omega] at this) (by simp[h0]) bQ
  rw[a8Y,b0Z] at ih;refine⟨λ j p hj=>?_,by rw[ih.2];congr 2;simp;omega⟩;cases j with
  | zero =>
   simp at hj;subst hj;rw[b0m,Kd,<-hs];exact h1
  | succ j =>
   have:=ih.1 j p (by simpa using hj);rwa [show i+1+j=i+(j+1) by omega] at this
 | [],_,_::_,_,_,_,h,_,_,_=>h.elim
 | _::_,_,[],_,_,_,h,_,_,_=>h.elim
theorem sj:∀ (m:Nat) (π:List Nat),π.Nodup->(∀ k∈π,k<m)->π.length<=m
 | 0,π,_,h=>by
  cases π with
  | nil=>simp
  | cons k r=>exact absurd (h k (by simp)) (by omega)
 | m+1,π,hn,h=>by
  by_cases hm:m∈π
  .have h1:=sj m (π.erase m) (hn.erase m) (λ k hk=>by
    have h2:=(hn.mem_erase_iff).1 hk;have:=h k h2.2;have:=h2.1;omega)
   have h3:=b0n hm;have:0<π.length:=b0q hm;omega
  .have:=sj m π hn (λ k hk=>by
    have:=h k hk;have:k≠m:=λ e=>by subst e;exact hm hk
    omega)
   omega
section
variable {c:Ctx} {G:Gh} {s:ag} {a:Act} {w w':World}
theorem C1.dB{lk:Nat->Option au}{v:AV}{x:Value}(h:C1 c G lk w v x){d:Nat}(hr:v.refs d=true):lk d≠none:=by
 cases v with
 | ptr i o =>
  have:=a8s (show Nat.beq i d=true from hr);subst this;obtain⟨_,_,_,h3⟩:=h;intro e;rw[e] at h3;cases h3
 | row i =>
  have:=a8s (show Nat.beq i d=true from hr);subst this;obtain⟨_,h3,_⟩:=h;intro e;rw[e] at h3;cases h3
 | dN i k o =>
  have:=a8s (show Nat.beq i d=true from hr);subst this;obtain⟨_,_,_,_,_,_,_,h3,_⟩:=h;intro e;rw[e] at h3;cases h3
 | aA i =>
  have:=a8s (show Nat.beq i d=true from hr);subst this;intro e;have h1:=h.1;rw[e] at h1;cases h1
 | sub i k o z =>
  have:=a8s (show Nat.beq i d=true from hr);subst this;intro e;have h1:=h.1;rw[e] at h1;cases h1
 | dW i k o z =>
  have:=a8s (show Nat.beq i d=true from hr);subst this;intro e;have h1:=h.1;rw[e] at h1;cases h1
 | mp i =>
  have:=a8s (show Nat.beq i d=true from hr);subst this;intro e;have h1:=h.2.1;rw[e] at h1;cases h1
 | agg cs=>exact h.elim
 | fO cs=>exact h.elim
 | cM f cs=>exact h.elim
 | _=>cases hr
theorem mO{d:Nat}:∀ {cs:List AV},AV.eX d cs=true->∃ v∈cs,v.refs d=true
 | v::r,h=>by
  simp only[AV.eX] at h;split at h
  .rename_i hv;exact⟨v,by simp,hv⟩
  .obtain⟨u,hu,hr⟩:=mO h;exact⟨u,by simp[hu],hr⟩
theorem aI.mem_left{α β:Type}{R:α->β->Prop}:∀ {Z9:List α} {bs:List β},aI R Z9 bs->∀ x∈Z9,∃ y,R x y
 | _::_,b::_,h,x,hx=>by
  rcases a8G.1 hx with rfl|hx
  .exact⟨b,h.1⟩
  .exact aI.mem_left h.2 x hx
theorem VR.dB{lk:Nat->Option au}{v:AV}{x:Value}(h:VR c G lk w v x){d:Nat}(hr:v.refs d=true):lk d≠none:=by
 cases v with
 | aK u=>cases hr
 | agg cs =>
  obtain⟨l,_,hl⟩:=h;obtain⟨u,hu,Bq⟩:=mO (show AV.eX d cs=true from hr);obtain⟨y,hy⟩:=hl.mem_left u hu;exact hy.dB Bq
 | fO vs =>
  obtain⟨l,_,hl⟩:=h;obtain⟨u,hu,Bq⟩:=mO (show AV.eX d vs=true from hr);obtain⟨y,hy⟩:=hl.mem_left u hu;cases u with
  | aA i=>exact C1.dB (c:=c) (G:=G) (w:=w) (v := .aA i) hy Bq
  | agg cs =>
   obtain⟨l,_,hl⟩:=hy;obtain⟨u,hu,Bq⟩:=mO (show AV.eX d cs=true from Bq);obtain⟨y,hy⟩:=hl.mem_left u hu;exact hy.dB Bq
  | _=>first|(cases Bq;done)|exact hy.elim
 | cM f vs =>
  obtain⟨l,_,hl⟩:=h;obtain⟨u,hu,Bq⟩:=mO (show AV.eX d vs=true from hr);obtain⟨y,hy⟩:=hl.mem_left u hu;rcases hy.inv with ⟨v,rfl,_⟩|⟨cs,l,rfl,_,hl⟩|h1
  .cases Bq
  .obtain⟨u,hu,Bq⟩:=mO (show AV.eX d cs=true from Bq);obtain⟨y,hy⟩:=hl.mem_left u hu;exact hy.dB Bq
  .exact h1.dB Bq
 | ptr i o=>exact C1.dB (c:=c) (G:=G) (w:=w) (v := .ptr i o) h hr
 | row i=>exact C1.dB (c:=c) (G:=G) (w:=w) (v := .row i) h hr
 | dN i k o=>exact C1.dB (c:=c) (G:=G) (w:=w) (v := .dN i k o) h hr
 | aA i=>exact C1.dB (c:=c) (G:=G) (w:=w) (v := .aA i) h hr
 | sub i k o z=>exact C1.dB (c:=c) (G:=G) (w:=w) (v := .sub i k o z) h hr
 | dW i k o z=>exact C1.dB (c:=c) (G:=G) (w:=w) (v := .dW i k o z) h hr
 | mp i=>exact C1.dB (c:=c) (G:=G) (w:=w) (v := .mp i) h hr
 | _=>cases hr
theorem Inv.NO(h:Inv c G s a w){d:Nat}(hd:s.af d=none):(∀ i,(s.sl i).refs d=false)/\∀ i o,s.af i=some o->o.refs d=false:=by
 refine⟨λ i=>?_,λ i o ho=>?_⟩
 .cases hr:(s.sl i).refs d with
  | false=>rfl
  | true=>exact absurd hd ((h.aw i).dB hr)
 .cases o with
  | row e τ xs=>rfl
  | aA τ xs=>rfl
  | map m=>rfl
  | box cs =>
   cases hr:au.refs d (.box cs) with
   | false=>rfl
   | true =>
    obtain⟨b,l,t,_,_,k3⟩:=h.aC i _ ho;obtain⟨u,hu,Bq⟩:=mO (show AV.eX d cs=true from hr);obtain⟨y,hy⟩:=k3.mem_left u hu;exact absurd hd (hy.dB Bq)
theorem Kj(h0:Inv c G s a w){d:Option Nat}{v:AV}{ob:Option au}{a':Act}(E7:pY d=true)(qC:∀ i o,d=some i->ob=some o->s.af i=none)(h:uE c G s.sl s.aw.length s.af d a w v ob a' w') :
  ∃ G',Inv c G' (s.gR d v ob) a' w':=by
 obtain⟨x,S',rfl,hI,hx⟩:=h;cases ob with
 | none =>
  refine⟨⟨S',G.η,G.φ⟩,?_⟩;have:s.gR d v none=s.put d v:=by cases d<;>rfl
  rw[this];exact Inv.put (s:=s) hI hx
 | some o =>
  obtain⟨hL,hN,hb⟩:=hx;have hd:∃ i,d=some i:=by cases o<;>first|exact⟨_,hL.choose_spec.1⟩|exact hL.elim
  obtain⟨i,rfl⟩:=hd;have hi:=qC i o rfl rfl;have rP:Inv c ⟨S',G.η,G.φ⟩ s a w':=hI;obtain⟨MZ,OJ⟩:=rP.NO hi;have hor:o.refs i=false:=by
   cases o with
   | row e τ xs=>rfl
   | aA τ xs=>rfl
   | map m=>rfl
   | box cs =>
    cases hr:au.refs i (.box cs) with
    | false=>rfl
    | true =>
     obtain⟨b,l,t,_,_,k3⟩:=hN;obtain⟨u,hu,Bq⟩:=mO (show AV.eX i cs=true from hr);obtain⟨y,hy⟩:=k3.mem_left u hu;exact absurd hi (hy.dB Bq)
  have nV:OR c ⟨S',λ j=>if j=i then x else G.η j,G.φ⟩ (λ j=>if j=i then some o else s.af j) w' i o:=by
   cases o with
   | box cs =>
    obtain⟨b,l,t,k1,k2,k3⟩:=hN;refine⟨b,l,t,by simp[k1],k2,k3.imp λ u y hu hy=>hy.mono (λ j hj=>?_) (λ _ h=>h) (λ _ _=>rfl)⟩;have dh:j≠i:=λ e=>by
     subst e;have:=jL hu hj;rw[show AV.eX j cs=au.refs j (.box cs) from rfl,hor] at this;cases this
    simp only[a8v dh];exact⟨dX.refl _,ae⟩
   | row e τ xs =>
    obtain⟨l,k1,k2,k3⟩:=hN;exact⟨l,by simpa using k1,k2,k3⟩
   | aA τ xs=>exact hN.elim
   | map m =>
    obtain⟨b,es,clock,k1,k2,k3⟩:=hN;exact⟨b,es,clock,by simp[k1],k2,k3⟩
  have SG:cS (some o)=false:=by
   cases o with
   | aA τ xs=>exact hN.elim
   | _=>rfl
  have h4:=aV.newObj rP i o x hi MZ OJ hor nV SG (.inr (a9w E7)) (λ b QK=>by
   obtain⟨q1,q2,q3⟩:=hb b QK;have hle:=h0.aE.size;refine⟨by omega,q3,q2,λ j p WW KN=>?_,λ j τ xs hj KN=>?_⟩
   .have:=(h0.place j p b WW KN).2.2;omega
   .have:=(h0.aM.pl j τ xs b hj KN).2.2.1;omega)
  refine⟨⟨S',λ j=>if j=i then x else G.η j,G.φ⟩,?_⟩;unfold Inv;have bO:(s.gR (some i) v (some o)).af=λ j=>if j=i then some o else s.af j:=by
   funext j;rw[yR];by_cases hj:j=i
   .subst hj;simp
   .have:¬ (some i=some j):=by simp;exact λ e=>hj e.symm
    rw[a8v this,a8v hj]
  rw[HU,bO,Jd];refine aV.put h4 ?_;cases o with
  | box cs =>
   obtain⟨j,hj,rfl⟩:=hL;simp only[a8r] at hj;subst hj;obtain⟨b,l,t,k1,k2,k3⟩:=hN;exact⟨b,by simp[k1],k1,by simp[gm]⟩
  | row e τ xs =>
   obtain⟨j,hj,rfl⟩:=hL;simp only[a8r] at hj;subst hj;obtain⟨l,k1,k2,k3⟩:=hN;refine⟨by simp,by simp[isRow],?_⟩;rcases k1.2 with ⟨rfl,_⟩|⟨g,cap,cur,rfl,_⟩
   .exact⟨_,_,_,rfl⟩
   .exact⟨_,_,_,rfl⟩
  | aA τ xs=>exact hN.elim
  | map m =>
   obtain⟨j,hj,rfl⟩:=hL;simp only[a8r] at hj;subst hj;obtain⟨b,es,clock,k1,k2,k3⟩:=hN;exact⟨by simp,by simp[Fh],b,k1⟩
theorem Uu(h:Inv c G s a w)(o:Oper):Inv c G (s.fresh o) a w:=by
 unfold ag.fresh;split
 .rename_i d _ _;obtain⟨h1,_,_⟩:=h.clear d;have bO:ag.af { s.bM d with aC:=bA d (s.bM d).aC }=λ i=>if i=d then none else (s.bM d).af i:=by
   funext i;exact dP d _ i
  unfold Inv;show aV c G (s.bM d).sl (s.bM d).aw.length (ag.af { s.bM d with aC:=bA d (s.bM d).aC }) a w;rw[bO,show (s.bM d).aw.length=s.aw.length from by simp[ag.bM]];exact h1
 .exact h
theorem Sl(s:ag)(o:Oper)(j:Nat):(s.af j=none->(s.fresh o).af j=none)/\(sP o.op=true->o.dst=some j->(s.fresh o).af j=none):=by
 unfold ag.fresh;split
 .rename_i d hc hd;have bO:ag.af { s.bM d with aC:=bA d (s.bM d).aC } j=if j=d then none else (s.af j).map (au.kill d):=by
   show af (bA d (s.bM d).aC) j=_;rw[dP];have:=congrFun (dF s d) j;show (if j=d then none else (s.bM d).af j)=_;rw[this]
  rw[bO];refine⟨λ h=>by rw[h];simp,λ _ hj=>?_⟩;rw[hd] at hj;simp only[a8r] at hj;rw[a8A hj.symm]
 .rename_i gP;exact⟨λ h=>h,λ hc hd=>(gP j hc hd).elim⟩
theorem yD:∀ (l:List Oper) {s:ag},Inv c G s a w->Inv c G (l.foldl ag.fresh s) a w
 | [],_,h=>h
 | o::r,_,h=>yD r (Uu h o)
theorem wF:∀ (l:List Oper) (s:ag) (j:Nat),(s.af j=none->(l.foldl ag.fresh s).af j=none)/\(∀ o∈l,sP o.op=true->o.dst=some j->(l.foldl ag.fresh s).af j=none)
 | [],s,j=>⟨λ h=>h,by simp⟩
 | o::r,s,j=>by
  obtain⟨h1,h2⟩:=wF r (s.fresh o) j;obtain⟨h3,h4⟩:=Sl s o j;refine⟨λ h=>h1 (h3 h),λ p hp hc hd=>?_⟩;rcases a8G.1 hp with rfl|hp
  .exact h1 (h4 hc hd)
  .exact h2 p hp hc hd
theorem Mk{E:Env}{lk:Nat->Option au}{f:FuncId}{Ts:List TypeId}{vs:List AV}{vc:Vc}{v:AV}{ob:Option au}(h:Cq E lk f Ts vs=some (vc,v,ob)):ob=none:=by
 unfold Cq at h;repeat' split at h
 all_goals first
  | (simp only[a8r,a8u] at h;exact h.2.2.symm)
  | cases h
theorem J3{E:Env}{lk:Nat->Option au}{g:AV}{Ts:List TypeId}{vs:List AV}{vc:Vc}{v:AV}{ob:Option au}(h:xj E lk g Ts vs=some (vc,v,ob)):ob=none:=by
 unfold xj at h;split at h
 .rename_i r hr;repeat' split at hr
  all_goals first
   | (simp only[a8r] at hr h;subst hr;simp only[a8u] at h;exact h.2.2.symm)
   | cases hr
 .repeat' split at h
  all_goals first
   | (simp only[a8r,a8u] at h;exact h.2.2.symm)
   | cases h
theorem HK{E:Env}{lk:Nat->Option au}{ev:Operand->AV}{o:Oper}{vc:Vc}{v:AV}{ob:au}(h:Fv E lk ev o=some (vc,v,some ob)):sP o.op=true:=by
 unfold Fv at h;split at h;case h_4 T aW=>rw[aW];rfl
 case h_5 T x aW=>rw[aW];rfl
 case h_7 T n ps aW=>rw[aW];rfl
 case h_21 T aW=>rw[aW];rfl
 case h_19 T x y aW=>rw[aW];rfl
 case h_20 cl aW =>
  split at h
  .repeat' split at h
   all_goals first
    | (simp at h;done)
    | cases h
  .rename_i fJ;rw[aW];simp[sP,fJ]
  .rename_i fJ;repeat' (split at h)
   all_goals first|cases h|skip
  .exact absurd (Mk h) (by simp)
  .split at h
   .exact absurd (Mk h) (by simp)
   .exact absurd (J3 h) (by simp)
   .exact absurd (J3 h) (by simp)
   .cases h
  .cases h
 all_goals (repeat' split at h)
 all_goals first
  | (simp at h;done)
  | cases h
end
theorem AG{l:List Oper}{D:Nat->Prop}(hD:∀ (k:Nat),D k->∀ (o:Oper),l[k]?=some o->∀ e∈o.after.toList,Region.binds .any e=true->D e.on):∀ (i:Nat) (o:Oper),l[i]?=some o->(∀ e∈o.after.toList,Region.binds .any e=true->D e.on) ->
  ∀ k,Nat.testBit ((bE l []).getD i 0) k=true->D k:=by
 obtain⟨r,h1,h2,h3⟩:=uH l [];rw[h1];simp only[List.nil_append,List.length_nil,Nat.zero_add] at h3 ⊢;intro i;induction i using Nat.strongRecOn with
 | _ i ih =>
  intro o ho a6q k hk;obtain⟨e,he,hb,h⟩:=h3 i o ho k hk;have YY:=a6q e he hb;rcases h with rfl|⟨bm,h⟩
  .exact YY
  .have WZ:i<l.length:=(a8P.1 ho).1;have hp:l[e.on]?=some (l[e.on]'(by omega)):=a8H (by omega);exact ih e.on bm _ hp (λ e' xy cq=>hD e.on YY _ hp e' xy cq) k h
theorem bJ{l:List Oper}(h:backward l=true):∀ (i:Nat) (o:Oper),l[i]?=some o->∀ e∈o.after.toList,Region.binds .any e=true->e.on<i:=by
 intro i o ho e he hb;unfold backward at h;rw[List.all_eq_true] at h;have hi:i<l.length:=(List.getElem?_eq_some_iff.1 ho).1;have:=h i (by simpa using hi);rw[ho] at this;simp only[List.all_eq_true] at this;have:=this e he;rw[hb] at this;simpa [Nat.blt_eq] using this
theorem A0:∀ {ds:List (Option Nat)},distinct ds=true->(∀ d∈ds,∃ t,d=some t)/\∀ (j k t:Nat),ds[j]?=some (some t)->ds[k]?=some (some t)->j=k
 | [],_=>⟨by simp,by simp⟩
 | none::_,h=>by cases h
 | some d::r,h=>by
  simp only[distinct] at h;split at h
  .cases h
  .rename_i Su;obtain⟨h1,h2⟩:=A0 h;have gP:∀ x∈r,x≠some d:=by
    intro x hx e;subst e;rw[b1o] at Su;have:=Su _ hx;simp at this
   refine⟨λ x hx=>?_,λ j k t hj hk=>?_⟩
   .rcases a8G.1 hx with rfl|hx
    .exact⟨d,rfl⟩
    .exact h1 x hx
   .cases j with
    | zero =>
     simp at hj;subst hj;cases k with
     | zero=>rfl
     | succ k=>exact absurd rfl (gP _ (List.mem_of_getElem? (by simpa using hk)))
    | succ j =>
     cases k with
     | zero =>
      simp at hk;subst hk;exact absurd rfl (gP _ (List.mem_of_getElem? (by simpa using hj)))
     | succ k=>rw[h2 j k t (by simpa using hj) (by simpa using hk)]
theorem mem_ready{ops:Array Oper}{listed:Array Bool}{i:Nat}(hs:listed.size=ops.size):i∈Region.ready .any ops listed↔∃ o,ops[i]?=some o/\listed.getD i false=false/\∀ e∈o.after.toList,Region.binds .any e=true->listed.getD e.on false=true:=by
 unfold Region.ready;simp only[List.mem_filter,List.mem_range,Bool.and_eq_true,Bool.not_eq_true'];constructor
 .rintro⟨hi,h1,h2⟩;have ho:ops[i]?=some ops[i]:=a9n hi;rw[ho] at h2;simp only[b0N,b1b] at h2;refine⟨_,ho,?_,λ e he hb=>?_⟩
  .have:i<listed.size:=by omega
   simpa [Array.getD_eq_getD_getElem?,this] using h1
  .rw[Array.all_eq_true_iff_forall_mem] at h2;have:=h2 e (by simpa using he);simpa [hb] using this
 .rintro⟨o,ho,h1,h2⟩;have hi:i<ops.size:=(a9H.1 ho).1;refine⟨hi,?_,?_⟩
  .have:i<listed.size:=by omega
   simpa [Array.getD_eq_getD_getElem?,this] using h1
  .rw[ho];simp only[b0N,b1b];rw[Array.all_eq_true_iff_forall_mem];intro e he;cases hb:Region.binds .any e with
   | false=>simp
   | true=>simp[h2 e (by simpa using he) hb]
theorem pL{listed:Array Bool}{i k:Nat}(hi:i<listed.size):(listed.setIfInBounds i true).getD k false=true↔listed.getD k false=true\/k=i:=by
 rw[a9d,a9d,b1D];by_cases h:i=k
 .subst h;simp[hi]
 .simp[h,b2J h]
section
variable {c:Ctx} {G:Gh} {s:ag} {a:Act} {w w':World}
theorem Gq(hE:bu c.P c.E){ops:Array Oper}{m:Nat}(dq:backward ops.toList=true)(ni:∀ j o,m<=j->ops.toList[j]?=some o->∀ k,k<j->Nat.testBit ((bE ops.toList []).getD j 0) k=true)
  {Q:ag->Prop} {Q':Exit->Act->World->Prop} (hQ:∀ G s a w,Inv c G s a w->Q s->Q' .normal a w) :
  ∀ (fuel j:Nat) (kn:List (Nat×Bool)) (G:Gh) (s:ag) (a:Act) (w:World) (listed:Array Bool),m<=j->ops.size<=j+fuel->listed.size=ops.size->(∀ k,k<ops.size->(listed.getD k false=true↔k<j)) ->
   Inv c G s a w->ei c.E ops (ops.toList.drop j) kn Q s->wpAny c.P .any ops Q' fuel listed a w:=by
 intro fuel;induction fuel with
 | zero =>
  intro j kn G s a w listed hmj hf bW hl hI hr;have gO:ops.toList.drop j=[]:=b0p (by simp;omega);rw[gO] at hr;refine⟨?_,hQ _ _ _ _ hI hr⟩;apply b0Q.2;intro i hi;obtain⟨o,ho,h1,_⟩:=(mem_ready bW).1 hi;have bm:=(a9H.1 ho).1;have:=(hl i bm).2 (by omega);rw[h1] at this;cases this
 | succ fuel ih =>
  intro j kn G s a w listed hmj hf bW hl hI hr;by_cases hj:j<ops.size
  .have ho:ops[j]?=some ops[j]:=a9n hj;have a4h:ops.toList.drop j=ops[j]::ops.toList.drop (j+1):=by
    rw[List.drop_eq_getElem_cons (by simpa using hj)];simp
   rw[a4h] at hr;constructor
   .intro gO;have:j∈Region.ready .any ops listed:=(mem_ready bW).2 ⟨_,ho,by
     cases hb:listed.getD j false with
     | false=>rfl
     | true=>have:=(hl j hj).1 hb;omega,λ e he hb=>by
     have:=bJ dq j ops[j] (by simp) e he hb;exact (hl e.on (by omega)).2 this⟩
    rw[gO] at this;cases this
   .intro i hi;obtain⟨o,bV,h1,h2⟩:=(mem_ready bW).1 hi;have DQ:=(a9H.1 bV).1;have E9:j<=i:=by
     rcases a8Q i j with h|h
     .have:=(hl i DQ).2 h;rw[h1] at this;cases this
     .exact h
    have nQ:i=j:=by
     rcases a8Q j i with h|h
     .have ep:=AG (l:=ops.toList) (D:=λ k=>k<j) (λ k hk o' cF e he hb=>by
       have:=bJ dq k o' cF e he hb;omega) i o (by simpa using bV) (λ e he hb=>by
        have bm:=bJ dq i o (by simpa using bV) e he hb;exact (hl e.on (by omega)).1 (h2 e he hb)) j (ni i o (by omega) (by simpa using bV) j h)
      omega
     .omega
    subst nQ;have hoe:o=ops[i]:=by rw[ho] at bV;exact (a9A bV).symm
    have zz:∀ k,k<ops.size->((listed.setIfInBounds i true).getD k false=true↔k<i+1):=λ k hk=>by
     rw[pL (by omega),hl k hk];omega
    unfold wpOp;simp only[ho];have tF:=yj hE hI hr;split at tF
    .rename_i hw;rw[a8A hw];exact .inl (a9S (λ a' w' ⟨G',s',mw,h1,h2⟩=>ih (i+1) mw G' s' a' w' _ (by omega) (by omega) (by rw[a9P];exact bW) zz h1 h2) (tF Q'))
    .rename_i hw;rw[a8v hw];obtain⟨G',s',mw,h1,h2⟩:=tF;exact ih (i+1) mw G' s' _ w _ (by omega) (by omega) (by rw[a9P];exact bW) zz h1 h2
  .have gO:ops.toList.drop j=[]:=b0p (by simp;omega);rw[gO] at hr;have eO:Region.ready .any ops listed=[]:=by
    apply b0Q.2;intro i hi;obtain⟨o,ho,h1,_⟩:=(mem_ready bW).1 hi;have bm:=(a9H.1 ho).1;have:=(hl i bm).2 (by omega);rw[h1] at this;cases this
   exact⟨λ _=>hQ _ _ _ _ hI hr,λ i hi=>by rw[eO] at hi;cases hi⟩
theorem DP{l:List Oper}{ops:Array Oper}(hl:ops.toList=l){bits:Nat}{o:Oper}{DA:Bool}(h:Inv c G s a w)(hg:eZ l bits s o DA):Region.wanted o (yielded ops a.tmps)=DA:=by
 unfold eZ at hg;split at hg
 .rename_i hn;simp[Region.wanted,hn,hg]
 .rename_i g want hn;obtain⟨t,v,h1,_,h3,h4⟩:=hg;have hx:=aR h (.tmp t);rw[h3] at hx;have hs:tw ops g=some t:=by
   unfold tw;rw[<-h1];unfold bU;rw[<-hl];simp
  unfold GV at h4;split at h4
  .have hy:=E6 (s:=s) hs hx;simp[Region.wanted,hn,hy,h4]
  .have hy:=Bi (s:=s) hs hx;simp[Region.wanted,hn,hy,h4]
  .exact h4.elim
theorem T6(hE:bu c.P c.E){ops:Array Oper}{m:Nat}{es:List Ig}{s0:ag}(dq:backward ops.toList=true)(hm:m<=ops.size)
  (ni:∀ j o,m<=j->ops.toList[j]?=some o->∀ k,k<j->Nat.testBit ((bE ops.toList []).getD j 0) k=true)
  (nj:∀ j k t,j<m->k<m->bU ops.toList j=some t->bU ops.toList k=some t->j=k)
  (Y2:∀ i o,i<m->ops.toList[i]?=some o->LS c.E ops.toList m ((bE ops.toList []).getD i 0) (du ops.toList es s0 (List.range i)) o (es.getD i ⟨false, .any,none⟩))
  (E7:∀ i o,i<m->ops.toList[i]?=some o->pY o.dst=true) (oJ:∀ i o t,i<m->ops.toList[i]?=some o->sP o.op=true->o.dst=some t->s0.af t=none)
  {Q:ag->Prop} {Q':Exit->Act->World->Prop} (hQ:∀ G s a w,Inv c G s a w->Q s->Q' .normal a w) {kn:List (Nat×Bool)} (MU:∀ G a w,Inv c G (du ops.toList es s0 (List.range m)) a w->ei c.E ops (ops.toList.drop m) kn Q (du ops.toList es s0 (List.range m))) :
  ∀ (fuel:Nat) (π:List Nat) (G:Gh) (a:Act) (w:World) (listed:Array Bool),ops.size=π.length+fuel->π.Nodup->(∀ k∈π,k<m)->listed.size=ops.size->(∀ k,k<ops.size->(listed.getD k false=true↔k∈π)) ->
   (∀ k∈π,∀ o,ops.toList[k]?=some o->∀ e∈o.after.toList,Region.binds .any e=true->e.on∈π)->Inv c G (du ops.toList es s0 π) a w->wpAny c.P .any ops Q' fuel listed a w:=by
 intro fuel;induction fuel with
 | zero =>
  intro π G a w listed hf hn bm bW hl tB hI;have hlen:=sj m π hn bm;have jF:∀ k,k<m->k∈π:=λ k hk=>by
   cases hb:decide (k∈π) with
   | true=>exact a8U hb
   | false =>
    have:=sj m (k::π) (a8V.2 ⟨b1k hb,hn⟩) (λ j hj=>by
     rcases a8G.1 hj with rfl|hj
     .exact hk
     .exact bm j hj)
    simp at this;omega
  suffices rP:Inv c G (du ops.toList es s0 (List.range m)) a w from Gq hE dq ni hQ 0 m kn G (du ops.toList es s0 (List.range m)) a w listed (a8C _) (by omega) bW (λ k hk=>by rw[hl k hk];exact⟨bm k,jF k⟩) rP (MU G a w rP)
  have heq:∀ t,(du ops.toList es s0 π).sl t=(du ops.toList es s0 (List.range m)).sl t/\(du ops.toList es s0 π).af t=(du ops.toList es s0 (List.range m)).af t:=λ t =>
   Oc (bits:=2 ^ m - 1) nj bm (by simp) hn List.nodup_range (λ k hk _=>⟨jF k hk,by simpa using hk⟩) t (by
    unfold hidden;rw[List.any_eq_false];intro k hk;simp only[List.mem_range] at hk;split
    .split
     .simp[b1a,hk]
     .simp
    .simp)
  unfold Inv at hI ⊢;rw[Ht] at hI ⊢;rw[<-funext λ t=>(heq t).1,<-funext λ t=>(heq t).2];exact hI
 | succ fuel ih =>
  intro π G a w listed hf hn bm bW hl tB hI;by_cases jF:∀ k,k<m->k∈π
  .suffices rP:Inv c G (du ops.toList es s0 (List.range m)) a w from Gq hE dq ni hQ (fuel+1) m kn G (du ops.toList es s0 (List.range m)) a w listed (a8C _) (by have:=sj m π hn bm;omega) bW (λ k hk=>by rw[hl k hk];exact⟨bm k,jF k⟩) rP (MU G a w rP)
   have heq:∀ t,(du ops.toList es s0 π).sl t=(du ops.toList es s0 (List.range m)).sl t/\(du ops.toList es s0 π).af t=(du ops.toList es s0 (List.range m)).af t:=λ t =>
    Oc (bits:=2 ^ m - 1) nj bm (by simp) hn List.nodup_range (λ k hk _=>⟨jF k hk,by simpa using hk⟩) t (by
     unfold hidden;rw[List.any_eq_false];intro k hk;simp only[List.mem_range] at hk;split
     .split
      .simp[b1a,hk]
      .simp
     .simp)
   unfold Inv at hI ⊢;rw[Ht] at hI ⊢;rw[<-funext λ t=>(heq t).1,<-funext λ t=>(heq t).2];exact hI
  ·
   have hex:∃ k,k<m/\k∉π/\∀ j,j<k->j∈π:=by
    have:∀ n,(∃ k,k<n/\k<m/\k∉π)->∃ k,k<m/\k∉π/\∀ j,j<k->j∈π:=by
     intro n;induction n with
     | zero=>rintro⟨k,hk,_⟩;omega
     | succ n U5 =>
      rintro⟨k,hk,hkm,jv⟩;by_cases hs:∃ k,k<n/\k<m/\k∉π
      .exact U5 hs
      .refine⟨k,hkm,jv,λ j hj=>?_⟩;cases hb:decide (j∈π) with
       | true=>exact a8U hb
       | false=>exact absurd ⟨j,by omega,by omega,b1k hb⟩ hs
    refine this m ?_;have h1:∃ k,¬ (k<m->k∈π):=b0C.1 jF;obtain⟨k,hk⟩:=h1;have h2:=b0A.1 hk;exact⟨k,h2.1,h2.1,h2.2⟩
   obtain⟨k0,V0,pK,SF⟩:=hex;have SB:ops[k0]?=some (ops[k0]'(by omega)):=a9n (by omega);constructor
   .intro gO;have:k0∈Region.ready .any ops listed:=(mem_ready bW).2 ⟨_,SB,by
     cases hb:listed.getD k0 false with
     | false=>rfl
     | true=>exact absurd ((hl k0 (by omega)).1 hb) pK,λ e he hb=>by
     have Kf:=bJ dq k0 ops[k0] (by simp) e he hb;exact (hl e.on (by omega)).2 (SF e.on Kf)⟩
    rw[gO] at this;cases this
   .intro i hi;obtain⟨o,bV,h1,h2⟩:=(mem_ready bW).1 hi;have DQ:=(Array.getElem?_eq_some_iff.1 bV).1;have dM:ops.toList[i]?=some o:=by simpa using bV
    have rQ:i∉π:=λ hh=>by
     have:=(hl i DQ).2 hh;rw[h1] at this;cases this
    have MT:∀ e∈o.after.toList,Region.binds .any e=true->e.on∈π:=λ e he hb=>by
     have Kf:=bJ dq i o dM e he hb;exact (hl e.on (by omega)).1 (h2 e he hb)
    have zy:=AG (l:=ops.toList) (D:=λ k=>k∈π) (λ k hk o' cF e he hb=>tB k hk o' cF e he hb) i o dM MT;have pJ:i<m:=by
     rcases a8Q i m with h|h
     .exact h
     .exact absurd (zy k0 (ni i o h dM k0 (by omega))) pK
    have G9:=AG (l:=ops.toList) (D:=λ k=>k<i) (λ k hk o' cF e he hb=>by
     have:=bJ dq k o' cF e he hb;omega) i o dM (λ e he hb=>bJ dq i o dM e he hb)
    have Fg:=λ t hh=>Oc (l:=ops.toList) (es:=es) (s0:=s0) (m:=m) (bits:=(bE ops.toList []).getD i 0) (π:=π) (π':=List.range i) nj bm (by intro k hk;simp at hk;omega) hn b1V
     (λ k hk hb=>⟨zy k hb,by simpa using G9 k hb⟩) t hh
    obtain⟨hg,cz,UW⟩:=Y2 i o pJ dM;have cE:OD ops.toList m ((bE ops.toList []).getD i 0) (du ops.toList es s0 (List.range i))=OD ops.toList m ((bE ops.toList []).getD i 0) (du ops.toList es s0 π):=by
     funext x;cases x with
     | tmp t =>
      simp only[OD];split
      .rfl
      .rename_i hh;exact ((Fg t hh).1).symm
     | _=>rfl
    have bO:Ln ops.toList m ((bE ops.toList []).getD i 0) (du ops.toList es s0 (List.range i))=Ln ops.toList m ((bE ops.toList []).getD i 0) (du ops.toList es s0 π):=by
     funext t;simp only[Ln];split
     .rfl
     .rename_i hh;exact ((Fg t hh).2).symm
    have hg':eZ ops.toList ((bE ops.toList []).getD i 0) (du ops.toList es s0 π) o (es.getD i ⟨false, .any,none⟩).DA:=by
     unfold eZ at hg ⊢;split
     .rename_i rS;simpa [rS] using hg
     .rename_i g want rS;simp only[rS] at hg;obtain⟨t,b,q1,q2,q3,q4⟩:=hg;refine⟨t,b,q1,q2,?_,q4⟩;have hgm:g<m:=Nat.lt_trans (G9 g q2) pJ;have hh:hidden ops.toList m ((bE ops.toList []).getD i 0) t=false:=by
       unfold hidden;rw[List.any_eq_false];intro k hk;simp only[List.mem_range] at hk;split
       .rename_i d hd;split
        .rename_i Bm;have Bm:=a8s Bm;subst Bm;have:=nj k g d hk hgm hd q1;subst this;rw[q2];simp
        .simp
       .simp
      exact ((Fg t hh).1).trans q3
    have hw:=DP (ops:=ops) rfl hI hg';have tC:∀ (G':Gh) (a':Act) (w':World),Inv c G' (du ops.toList es s0 (π++[i])) a' w'->wpAny c.P .any ops Q' fuel (listed.setIfInBounds i true) a' w':=by
     intro G' a' w' rP;refine ih (π++[i]) G' a' w' _ (by simp;omega) ?_ ?_ (by rw[a9P];exact bW) ?_ ?_ rP
     .rw[a8M];exact⟨hn,by simp,λ x hx y hy=>by simp at hy;subst hy;exact λ e=>rQ (e ▸ hx)⟩
     .intro k hk;rcases a8t.1 hk with hk|hk
      .exact bm k hk
      .simp at hk;omega
     .intro k hk;rw[pL (by omega),hl k hk];simp
     .intro k hk o' cF e he hb;rcases a8t.1 hk with hk|hk
      .exact a9Y _ (tB k hk o' cF e he hb)
      .simp at hk;subst hk;rw[dM] at cF;simp only[a8r] at cF;subst cF;exact a9Y _ (MT e he hb)
    have QO:bU ops.toList i=o.dst:=by simp[bU,dM]
    unfold wpOp;simp only[bV];cases Hg:(es.getD i ⟨false, .any,none⟩).DA with
    | true =>
     rw[Hg] at hw;rw[a8A hw];obtain⟨vc,hq,dO⟩:=cz Hg;rw[cE,bO] at hq;refine .inl (a9S ?_ (Fw hE hI (lk':=Ln ops.toList m ((bE ops.toList []).getD i 0) (du ops.toList es s0 π)) ?_ ?_ hq dO))
     .intro a' w' hd;obtain⟨G',nm⟩:=Kj hI (E7 i o pJ dM) (λ t ob Bm Au=>by
       rw[Au] at hq;have QN:=HK hq;have h0:=oJ i o t pJ dM QN Bm;have xA:=(fv ops.toList es t π s0 (λ k hk hkd=>by
        have:=nj k i t (bm k hk) pJ hkd (by rw[QO];exact Bm);subst this;exact rQ hk)).2
       rw[xA,h0]) hd
      refine tC G' a' w' ?_;rw[sn,QO];exact nm
     .intro id ob aL;unfold Ln at aL;split at aL
      .cases aL
      .exact aL
     .intro x;cases x with
      | tmp t =>
       simp only[OD];split
       .trivial
       .exact aR hI (.tmp t)
      | const v=>exact aR hI (.const v)
      | global g=>exact aR hI (.global g)
      | func f=>exact aR hI (.func f)
    | false =>
     rw[Hg] at hw;rw[hw];obtain⟨hv,Au⟩:=UW Hg;refine tC G _ w ?_;rw[sn,QO,hv,Au,Jc];exact Inv.put (v := .dG) hI rfl
theorem Nc{l:List Oper}{K:Prop}(h:Inv c G s a w):si l s K->K:=by
 induction l with
 | nil=>exact λ h=>h
 | cons o r ih =>
  intro hk;simp only[si] at hk;split at hk
  .exact ih (Cy (h.aw _) hk)
  .exact ih hk
theorem Me(hE:bu c.P c.E)(ij:c.P.follows .mixedOrders=true){id:Nat}{ops:Array Oper}{Q:ag->Prop}{Q':Exit->Act->World->Prop}(hQ:∀ G s a w,Inv c G s a w->Q s->Q' .normal a w)
  (h:Inv c G s a w) (hd:Md c.E ops Q s):(Code.region id ops true).wp c.P Q' a w:=by
 unfold Md at hd;simp only at hd;split at hd;case h_2=>exact hd.elim
 case h_1 hb =>
  simp only[Bool.and_eq_true] at hb;obtain⟨IJ,wI,dq⟩:=hb;obtain⟨r,YS,Ss,_⟩:=uH ops.toList [];have MR:(bE ops.toList []).length=ops.size:=by rw[YS];simpa using Ss
  obtain⟨hm1,_,hm3⟩:=wR (bE ops.toList []) 0 0 (a8C _);simp only[a9I] at hm1 hm3;rw[MR] at hm1;generalize hmd:lC (bE ops.toList []) 0 0=m at *
  have ni:∀ j o,m<=j->ops.toList[j]?=some o->∀ k,k<j->Nat.testBit ((bE ops.toList []).getD j 0) k=true:=by
   intro j o hmj ho k hk;have hj:j<ops.size:=by have:=(List.getElem?_eq_some_iff.1 ho).1;simpa using this
   have hg:(bE ops.toList [])[j]?=some ((bE ops.toList [])[j]'(by omega)):=List.getElem?_eq_getElem (by omega);have:=hm3 j _ hg hmj;rw[List.getD_eq_getElem?_getD,hg,Option.getD_some,show (bE ops.toList [])[j]'(by omega)=2 ^ j - 1 by omega,Nat.testBit_two_pow_sub_one];simpa using hk
  obtain⟨_,QO⟩:=A0 wI;have nj:∀ j k t,j<m->k<m->bU ops.toList j=some t->bU ops.toList k=some t->j=k:=by
   have get:∀ j t,j<m->bU ops.toList j=some t->((ops.toList.take m).map (·.dst))[j]?=some (some t):=by
    intro j t hj Hd;unfold bU at Hd;simp only[Option.bind_eq_some_iff] at Hd;obtain⟨o,ho,SG⟩:=Hd;rw[List.getElem?_map,List.getElem?_take,if_pos hj,ho];simp[SG]
   intro j k t hj hk Hd WY;exact QO j k t (get j t hj Hd) (get k t hk WY)
  obtain⟨es,mw,s',nR,hq⟩:=pg hd;have hlen:(ops.toList.take m).length=m:=by simp;omega
  have M3:∀ j o,(ops.toList.take m)[j]?=some o->ops.toList[0+j]?=some o:=λ j o ho=>by
   rw[a9L] at ho;split at ho
   .simpa using ho
   .cases ho
  obtain⟨ht1,Zt⟩:=P5 (ops.toList.take m) 0 es [] _ s' nR M3 rfl rfl;simp only[a9e,a9I,hlen] at ht1 Zt;subst Zt;have YL:Inv c G ((ops.toList.take m).foldl ag.fresh s) a w.drew:=yD _ (aV.drew h);refine wp_region_any ij ?_;refine T6 hE (m:=m) (es:=es) (s0:=(ops.toList.take m).foldl ag.fresh s) dq hm1 ni nj ?_ (λ i o pJ ho=>a9c.1 IJ o (a9h (by rw[a9L,a8A pJ];exact ho))) ?_ hQ (kn:=mw) (λ G a w hI=>Nc hI hq) ops.size [] G a _ _ (by simp) (by simp) (by simp) (by simp) ?_ (by simp) YL
  .intro i o pJ ho;exact ht1 i o (by rw[a9L,a8A pJ];exact ho)
  .intro i o t pJ ho hc Bm;exact (wF (ops.toList.take m) s t).2 o (a9h (by rw[a9L,a8A pJ];exact ho)) hc Bm
  .intro k hk;simp[hk]
end
section
variable {w w':World}
theorem LR.ctx{c c':Ctx}{S:Nat->Prop}{v:Arg}{x:Value}(h:LR c S w v x)(bQ:∀ b,St c S b->St c' S b):LR c' S w v x:=by
 cases v with
 | ref v=>obtain⟨b,o,cs,h1,h2,h3⟩:=h;exact⟨b,o,cs,h1,bQ b h2,h3⟩
 | val v=>exact h
 | fn f=>exact h
 | cM v=>exact h
 | own v=>exact h
 | box k=>exact h
theorem C1.ctx{c c':Ctx}(hP:c'.P=c.P){G:Gh}{lk:Nat->Option au}{v:AV}{x:Value}(h:C1 c G lk w v x)(bQ:∀ b,St c G.S b->St c' G.S b):C1 c' G lk w v x:=by
 cases v with
 | cO v=>obtain⟨b,o,cs,h1,h2,h3⟩:=h;exact⟨b,o,cs,h1,bQ b h2,h3⟩
 | fV v=>obtain⟨f,eb,l,h1,h2,h3⟩:=h;exact⟨f,eb,l,h1,hP ▸ h2,h3.imp λ _ _ _ q=>q.ctx bQ⟩
 | _=>exact h
theorem TR.ctx{c c':Ctx}(hP:c'.P=c.P){G:Gh}{lk:Nat->Option au}{v:AV}{x:Value}(h:TR c G lk w v x)(bQ:∀ b,St c G.S b->St c' G.S b):TR c' G lk w v x:=by
 cases v with
 | aA id=>exact (show C1 c G lk w (.aA id) x from h).ctx hP bQ
 | cO v=>exact (show C1 c G lk w (.cO v) x from h).ctx hP bQ
 | agg cs=>obtain⟨l,h1,h2⟩:=h;exact⟨l,h1,h2.imp λ _ _ _ q=>q.ctx hP bQ⟩
 | aK v=>exact h
 | any=>trivial
 | _=>exact h.elim
theorem CR.ctx{c c':Ctx}(hP:c'.P=c.P){G:Gh}{lk:Nat->Option au}{v:AV}{x:Value}(h:CR c G lk w v x)(bQ:∀ b,St c G.S b->St c' G.S b):CR c' G lk w v x:=by
 cases v with
 | aK v=>exact h
 | agg cs=>obtain⟨l,h1,h2⟩:=h;exact⟨l,h1,h2.imp λ _ _ _ q=>q.ctx hP bQ⟩
 | any=>exact (show C1 c G lk w (.any) x from h).ctx hP bQ
 | dG=>exact (show C1 c G lk w (.dG) x from h).ctx hP bQ
 | nil=>exact (show C1 c G lk w (.nil) x from h).ctx hP bQ
 | cO v=>exact (show C1 c G lk w (.cO v) x from h).ctx hP bQ
 | ptr i o=>exact (show C1 c G lk w (.ptr i o) x from h).ctx hP bQ
 | row i=>exact (show C1 c G lk w (.row i) x from h).ctx hP bQ
 | dN i j o=>exact (show C1 c G lk w (.dN i j o) x from h).ctx hP bQ
 | fO vs=>exact (show C1 c G lk w (.fO vs) x from h).ctx hP bQ
 | fn f=>exact (show C1 c G lk w (.fn f) x from h).ctx hP bQ
 | aA i=>exact (show C1 c G lk w (.aA i) x from h).ctx hP bQ
 | sub i j o z=>exact (show C1 c G lk w (.sub i j o z) x from h).ctx hP bQ
 | dW i j o z=>exact (show C1 c G lk w (.dW i j o z) x from h).ctx hP bQ
 | cM f cs=>exact (show C1 c G lk w (.cM f cs) x from h).ctx hP bQ
 | fV v=>exact (show C1 c G lk w (.fV v) x from h).ctx hP bQ
 | mp i=>exact (show C1 c G lk w (.mp i) x from h).ctx hP bQ
theorem VR.ctx{c c':Ctx}(hP:c'.P=c.P){G:Gh}{lk:Nat->Option au}{v:AV}{x:Value}(h:VR c G lk w v x)(bQ:∀ b,St c G.S b->St c' G.S b):VR c' G lk w v x:=by
 cases v with
 | aK v=>exact h
 | agg cs=>obtain⟨l,h1,h2⟩:=h;exact⟨l,h1,h2.imp λ _ _ _ q=>q.ctx hP bQ⟩
 | fO vs=>obtain⟨l,h1,h2⟩:=h;exact⟨l,h1,h2.imp λ _ _ _ q=>q.ctx hP bQ⟩
 | cM f cs=>obtain⟨l,h1,h2⟩:=h;exact⟨l,h1,h2.imp λ _ _ _ q=>q.ctx hP bQ⟩
 | any=>exact (show C1 c G lk w (.any) x from h).ctx hP bQ
 | dG=>exact (show C1 c G lk w (.dG) x from h).ctx hP bQ
 | nil=>exact (show C1 c G lk w (.nil) x from h).ctx hP bQ
 | cO v=>exact (show C1 c G lk w (.cO v) x from h).ctx hP bQ
 | ptr i o=>exact (show C1 c G lk w (.ptr i o) x from h).ctx hP bQ
 | row i=>exact (show C1 c G lk w (.row i) x from h).ctx hP bQ
 | dN i j o=>exact (show C1 c G lk w (.dN i j o) x from h).ctx hP bQ
 | fn f=>exact (show C1 c G lk w (.fn f) x from h).ctx hP bQ
 | aA i=>exact (show C1 c G lk w (.aA i) x from h).ctx hP bQ
 | sub i j o z=>exact (show C1 c G lk w (.sub i j o z) x from h).ctx hP bQ
 | dW i j o z=>exact (show C1 c G lk w (.dW i j o z) x from h).ctx hP bQ
 | fV v=>exact (show C1 c G lk w (.fV v) x from h).ctx hP bQ
 | mp i=>exact (show C1 c G lk w (.mp i) x from h).ctx hP bQ
theorem OR.ctx{c c':Ctx}(hP:c'.P=c.P){G:Gh}{lk:Nat->Option au}{id:Nat}{o:au}(h:OR c G lk w id o)(bQ:∀ b,St c G.S b->St c' G.S b):OR c' G lk w id o:=by
 cases o with
 | box cs=>obtain⟨b,l,t,h1,h2,h3⟩:=h;exact⟨b,l,t,h1,h2,h3.imp λ _ _ _ q=>q.ctx hP bQ⟩
 | row e τ xs=>exact h
 | aA τ xs=>exact h
 | map m=>exact h
def Ctx.fz(c:Ctx)(w:World)(S:Nat->Prop)(Z:Nat->Prop):Ctx :=
 { c with w0:=w,X:=λ b=>((c.w0.heap.size<=b/\b<w.heap.size)\/c.X b)/\¬ Z b,S0:=S,Z:=λ b=>Z b\/c.Z b }
theorem Inv.fz{c:Ctx}{G:Gh}{s:ag}{a:Act}(h:Inv c G s a w){Z:Nat->Prop}(hZ:∀ b,Z b->sw c G s.af w b):Inv (c.fz w G.S Z) G s a w:=by
 have bQ:∀ b,St c G.S b->St (c.fz w G.S Z) G.S b:=λ b hb=>by
  rcases hb with hb|⟨h1,h2,h3⟩
  .exact .inl hb
  .refine .inr ⟨a8B h1 h.aE.size,λ q=>q.1.elim (λ q=>by omega) h2,λ q=>q.elim (λ z=>(hZ b z).1.elim (λ q=>by omega) h2) h3⟩
 exact {
  defers:=h.defers,size:=h.size
  aE:=bH.refl _ _
  jN:=⟨λ b hb=>hb.1.elim (λ q=>q.2) λ q=>a8B (h.jN.1 b q) h.aE.size,λ g hg=>by
   obtain⟨_,h2,h3,_⟩:=h.jN.2 g hg;obtain⟨g1,g2⟩:=h.Xw.2 g hg;exact⟨g1,λ q=>q.1.elim (λ q=>by omega) h2,h.dH g g1,g2⟩⟩
  ew:=λ b _ _=>b0G
  sX:=λ b hb=>hb
  dH:=h.dH
  aw:=λ i=>(h.aw i).ctx (c:=c) (c':=c.fz w G.S Z) rfl bQ
  aC:=λ id o ho=>(h.aC id o ho).ctx (c:=c) (c':=c.fz w G.S Z) rfl bQ
  place:=λ id o b ho hb=>by
   obtain⟨h1,h2,h3⟩:=h.place id o b ho hb;exact⟨.inr ⟨h1.imp (λ q=>⟨q,h3⟩) (λ q=>q),λ z=>(hZ b z).2.2.2.1 id o ho hb⟩,h2,h3⟩
  apart:=h.apart
  aM:={
   tr:=h.aM.tr,nd:=h.aM.nd,ap:=h.aM.ap
   pl:=λ id τ xs b ht hb=>by
    obtain⟨h1,h2,h3,h4⟩:=h.aM.pl id τ xs b ht hb;exact⟨.inr ⟨h1.imp (λ q=>⟨q,h3⟩) (λ q=>q),λ z=>(hZ b z).2.2.2.2 id τ xs ht hb⟩,h2,h3,h4⟩ }
  root:=h.root,fN:=h.fN,dy:=h.dy,eM:=h.eM }
theorem Inv.a7j{c:Ctx}{G:Gh}{s:ag}{a:Act}{G':Gh}{s':ag}{a':Act}(h:Inv c G s a w){Z:Nat->Prop}(hZ:∀ b,Z b->sw c G s.af w b)(h':Inv (c.fz w G.S Z) G' s' a' w') :
  Inv c G' s' a' w'/\∀ b,Z b->w'.heap[b]?=w.heap[b]?/\sw c G' s'.af w' b:=by
 have bQ:∀ b,St (c.fz w G.S Z) G'.S b->St c G'.S b:=λ b hb=>by
  rcases hb with hb|⟨h1,h2,h3⟩
  .exact .inl hb
  .have hz:¬ Z b:=λ z=>h3 (.inl z);refine .inr ⟨?_,λ q=>h2 ⟨.inr q,hz⟩,λ q=>h3 (.inr q)⟩;rcases a8Q b c.w0.heap.size with q|q
   .exact q
   .exact absurd ⟨.inl ⟨q,h1⟩,hz⟩ h2
 have back:∀ b,(w.heap.size<=b\/(c.fz w G.S Z).X b)->c.w0.heap.size<=b\/c.X b:=λ b hb=>by
  have:=h.aE.size;exact hb.elim (λ q => .inl (by omega)) λ q=>q.1.elim (λ q => .inl q.1) .inr
 refine⟨{
  defers:=h'.defers,size:=h'.size
  aE:=h.aE.trans h'.aE λ i hi hx=>hx.1.elim (λ q=>by omega) (λ q=>q)
  jN:=h.jN
  ew:=λ b hb hx=>(h'.ew b (a8B hb h.aE.size) (λ q=>q.1.elim (λ q=>by omega) hx)).trans (h.ew b hb hx)
  sX:=λ b hb=>h'.sX b (h.sX b hb)
  dH:=h'.dH
  aw:=λ i=>(h'.aw i).ctx (c:=c.fz w G.S Z) (c':=c) rfl bQ
  aC:=λ id o ho=>(h'.aC id o ho).ctx (c:=c.fz w G.S Z) (c':=c) rfl bQ
  place:=λ id o b ho hb=>by
   obtain⟨h1,h2,h3⟩:=h'.place id o b ho hb;exact⟨back b h1,h2,h3⟩
  apart:=h'.apart
  aM:={
   tr:=h'.aM.tr,nd:=h'.aM.nd,ap:=h'.aM.ap
   pl:=λ id τ xs b ht hb=>by
    obtain⟨h1,h2,h3,h4⟩:=h'.aM.pl id τ xs b ht hb;exact⟨back b h1,h2,h3,h4⟩ }
  root:=h'.root,fN:=h'.fN,dy:=h'.dy,eM:=h'.eM },λ b z=>?_⟩
 obtain⟨z1,z2,z3,z4,z5⟩:=hZ b z;have ux:¬ (c.fz w G.S Z).X b:=λ q=>q.2 z;have gP:¬ (w.heap.size<=b\/(c.fz w G.S Z).X b):=λ q=>q.elim (λ q=>by omega) ux;exact⟨h'.aE.block b z3 ux,z1,λ q=>z2 ((h'.ew b z3 ux).1 q),a8B z3 h'.aE.size,λ i o bV hb=>gP (h'.place i o b bV hb).1,λ j τ xs hj hb=>gP (h'.aM.pl j τ xs b hj hb).1⟩
end
end Go.Proofs.YtncejbehidimmaaGreatDoor

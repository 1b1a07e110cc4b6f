/- VmTree, VmMark, VmOwnOps, VmBuild, VmBuild2, VmSt, VmStep, VmDraw, VmDraw2, VmDraw3, VmFrz. -/
import Derived.Test.YtmjfpcajohhbeaaGreatDoorVmEff
import Derived.Eval
set_option linter.all false
namespace Go.Proofs.YtmjfpcajohhbeaaGreatDoor
def a9y:=@List.cons_append
def b0d:=@List.mem_cons_of_mem
def a8S:=@List.nodup_append
def a9F:=@List.nodup_nil
def a9j:=@List.nodup_cons
def a9K:=@List.take_append_drop
def b2f:=@List.set_append_right
def b0c:=@Bool.or_eq_true
def a8J:=@Bool.not_eq_true'
def b0K:=@Nat.lt_irrefl
def b2r:=@Array.toList_append
def b2g:=@Go.heap_alloc_old
def b1V:=@Nat.beq_refl
def b0Q:=@List.mem_cons_self
def b0E:=@List.mem_range
def b1o:=@Classical.byContradiction
def b1x:=@List.nodup_range
def b0R:=@List.Nodup.length_le_of_subset
def a9V:=@Go.Oper.wp_mono
def b0J:=@List.getElem?_eq_none
def b1e:=@Option.getD_some
def a9X:=@List.any_eq_false
def b0X:=@List.singleton_append
def b0u:=@List.length_erase_of_mem
def b0G:=@List.length_pos_of_mem
def a9O:=@List.mem_filter
def b1y:=@Array.all_eq_true_iff_forall_mem
def a9x:=@Array.getElem?_eq_some_iff
def b0S:=@List.eq_nil_iff_forall_not_mem
def a9I:=@Array.size_setIfInBounds
def b0m:=@of_decide_eq_false
def b0H:=@Nat.testBit_two_pow_sub_one
def b2j:=@Classical.not_forall
def b1Q:=@Classical.not_imp
def b0v:=@List.mem_append_left
section
variable {c:Ctx} {G:Gh} {sl:Nat->AV} {n:Nat} {lk:Nat->Option aB} {a:Act} {w w':World}
theorem bz.Tg(h:bz c G sl n lk a w)(id:Nat)(τ:Ty)(xs:List τ.den)(η0:Value)(fp:List Nat)(bf:lk id=none)(hs:∀ i,(sl i).refs id=false)(ho:∀ i o,lk i=some o->o.refs id=false)
  (a6G:c.R id=none) (hT:lA w η0 τ xs fp) (dr:fp.Nodup) (hpl:∀ b∈fp,(c.w0.heap.size<=b\/c.X b)/\¬ G.S b/\b<w.heap.size/\(∀ i o,lk i=some o->eV (G.η i)≠some b)/\∀ j τ xs,lk j=some (.aE τ xs)->b∉G.φ j) :
  bz c ⟨G.S,λ i=>if i=id then η0 else G.η i,λ i=>if i=id then fp else G.φ i⟩ sl n (λ i=>if i=id then some (.aE τ xs) else lk i) a w:=by
 have gN:∀ j,j≠id->fb (lk j) ((λ i=>if i=id then some (aB.aE τ xs) else lk i) j)/\(if j=id then η0 else G.η j)=G.η j:=λ j hj=>by simp only[a8y hj];exact⟨fb.refl _,trivial⟩
 have Mt:eV η0=none:=by
  obtain⟨v,l,_,_,h1,_⟩:=hT
  rw[h1];rfl
 have l7:∀ i b,eV (if i=id then η0 else G.η i)=some b->i≠id/\eV (G.η i)=some b:=λ i b hb=>by
  by_cases hi:i=id
  .rw[a8O hi,Mt] at hb;cases hb
  .rw[a8y hi] at hb;exact⟨hi,hb⟩
 have hold:∀ j bo dh,(if j=id then some (aB.aE τ xs) else lk j)=some (.aE bo dh)->j≠id->lk j=some (.aE bo dh):=λ j bo dh k hj=>by rwa [a8y hj] at k
 exact {
  defers:=h.defers,size:=h.size,aU:=h.aU,oE:=h.oE,fE:=h.fE,sX:=h.sX,ez:=h.ez
  aC:=λ i=>(h.aC i).mono (λ j hj=>gN j (λ e=>by subst e;rw[hs i] at hj;cases hj)) (λ _ h=>h) (λ _ _=>rfl)
  aK:=λ i o' cE=>by
   by_cases hi:i=id
   .subst hi
    simp only[b0r,a8o] at cE
    subst cE
    trivial
   .simp only[a8y hi] at cE
    exact (h.aK i o' cE).mono (by simp only[a8y hi]) (λ _ _=>rfl) (λ j hj=>gN j (λ e=>by subst e;rw[ho i o' cE] at hj;cases hj)) (λ _ h=>h) (λ _ _=>rfl)
  place:=λ i o' b cE hb=>by
   obtain⟨hi,hb⟩:=l7 i b hb
   simp only[a8y hi] at cE
   exact h.place i o' b cE hb
  apart:=λ i j o1 o2 b cE KG hb cD=>by
   obtain⟨hi,hb⟩:=l7 i b hb
   obtain⟨hj,cD⟩:=l7 j b cD
   simp only[a8y hi] at cE
   simp only[a8y hj] at KG
   exact h.apart i j o1 o2 b cE KG hb cD
  bc:={
   tr:=λ j bo dh k=>by
    by_cases hj:j=id
    .subst hj
     simp only[b0r,a8o,aB.aE.injEq] at k ⊢
     obtain⟨rfl,k⟩:=k
     have k:=b1Z k
     subst k
     exact hT
    .simp only[a8y hj]
     exact h.bc.tr j bo dh (hold j bo dh k hj)
   nd:=λ j bo dh k=>by
    by_cases hj:j=id
    .simp only[a8O hj];exact dr
    .simp only[a8y hj]
     exact h.bc.nd j bo dh (hold j bo dh k hj)
   pl:=λ j bo dh b k hb=>by
    have fin:(∀ i o,lk i=some o->eV (G.η i)≠some b)->∀ i o,(if i=id then some (aB.aE τ xs) else lk i)=some o->eV (if i=id then η0 else G.η i)≠some b:=λ hh i o cE e=>by
     obtain⟨hi,e⟩:=l7 i b e
     rw[a8y hi] at cE
     exact hh i o cE e
    by_cases hj:j=id
    .simp only[a8O hj] at hb
     obtain⟨q1,q2,q3,q4,q5⟩:=hpl b hb
     exact⟨q1,q2,q3,fin q4⟩
    .simp only[a8y hj] at hb
     obtain⟨q1,q2,q3,q4⟩:=h.bc.pl j bo dh b (hold j bo dh k hj) hb
     exact⟨q1,q2,q3,fin q4⟩
   ap:=λ j j' UD n9 UC pW b k k' hb cD=>by
    by_cases hj:j=id
    .by_cases Gf:j'=id
     .rw[hj,Gf]
     .simp only[a8O hj] at hb
      simp only[a8y Gf] at cD
      exact absurd cD ((hpl b hb).2.2.2.2 j' n9 pW (hold j' n9 pW k' Gf))
    .by_cases Gf:j'=id
     .simp only[a8y hj] at hb
      simp only[a8O Gf] at cD
      exact absurd hb ((hpl b cD).2.2.2.2 j UD UC (hold j UD UC k hj))
     .simp only[a8y hj] at hb
      simp only[a8y Gf] at cD
      exact h.bc.ap j j' UD n9 UC pW b (hold j UD UC k hj) (hold j' n9 pW k' Gf) hb cD }
  root:=λ j v hr ht=>by
   have fG:j≠id:=λ e=>by subst e;rw[a6G] at hr;cases hr
   simp only[a8y fG] at ht ⊢
   exact h.root j v hr ht
  lj:=h.lj
  dQ:=λ j v hr ht=>by
   by_cases hj:j=id
   .simp only[a8O hj] at ht;cases ht
   .simp only[a8y hj] at ht ⊢
    exact h.dQ j v hr ht
  gu:=h.gu }
def xu(c:Ctx)(G:Gh)(lk:Nat->Option aB)(w:World)(b:Nat):Prop :=
 (c.w0.heap.size<=b\/c.X b)/\¬ G.S b/\b<w.heap.size/\(∀ i o,lk i=some o->eV (G.η i)≠some b)/\∀ j τ xs,lk j=some (.aE τ xs)->b∉G.φ j
structure IW(c:Ctx)(G:Gh)(lk lk':Nat->Option aB)(w w':World)(tq:Nat->Value)(rM:Nat->List Nat)(I:Nat->Prop):Prop where
 same:∀ id,¬ I id->lk' id=lk id/\tq id=G.η id/\rM id=G.φ id
 aE:∀ id,I id->∃ τ xs dh v l l',lk id=some (.aE τ xs)/\lk' id=some (.aE τ dh)/\G.η id = .tuple (v::l).toArray/\tq id = .tuple (v::l').toArray/\lA w' (tq id) τ dh (rM id)/\(rM id).Nodup
 a4B:∀ id b,I id->b∈rM id->(∃ dO,I dO/\b∈G.φ dO)\/xu c G lk w' b
 apart:∀ id dO b,I id->I dO->b∈rM id->b∈rM dO->id=dO
 heap:∀ b,b<w.heap.size->(∀ id,I id->b∉G.φ id)->w'.heap[b]?=w.heap[b]?
 os:w'.os=w.os
 tape:w'.tape=w.tape
 output:w'.output=w.output
 size:w.heap.size<=w'.heap.size
theorem xu.grow{lk:Nat->Option aB}{b:Nat}(h:xu c G lk w b)(hs:w.heap.size<=w'.heap.size):xu c G lk w' b :=
 ⟨h.1,h.2.1,a8G h.2.2.1 hs,h.2.2.2⟩
theorem IW.a5V{tq:Nat->Value}{rM:Nat->List Nat}{I:Nat->Prop}{lk':Nat->Option aB}(t:IW c G lk lk' w w' tq rM I)(id:Nat):fb (lk id) (lk' id):=by
 by_cases hi:I id
 .obtain⟨τ,xs,dh,_,_,_,h1,h2,_⟩:=t.aE id hi
  rw[h1,h2]
  exact⟨λ h=>(by cases h),(λ e τ xs h=>by cases h),(λ _=>rfl),λ hh=>by cases hh⟩
 .rw[(t.same id hi).1];exact fb.refl _
theorem C1.fK{tq:Nat->Value}{rM:Nat->List Nat}{I:Nat->Prop}{lk':Nat->Option aB}(t:IW c G lk lk' w w' tq rM I)(cw:∀ b,St c G.S b->w'.heap[b]?=w.heap[b]?){u:AV}{x:Value}(hu:u.Nk=false)(h:C1 c G lk w u x):C1 c ⟨G.S,tq,rM⟩ lk' w' u x:=by
 have key:(∀ id,u.refs id=true->¬ I id)->C1 c ⟨G.S,tq,rM⟩ lk' w' u x:=λ hk=>h.mono (λ id bf=>⟨t.a5V id,(t.same id (hk id bf)).2.1⟩) (λ _ h=>h) cw
 have noT:∀ id,dw (lk id)=false->¬ I id:=λ id hn hi=>by
  obtain⟨τ,xs,_,_,_,_,h1,_⟩:=t.aE id hi
  rw[h1] at hn;cases hn
 cases u with
 | aE id =>
  obtain⟨h1,l,h2,h3⟩:=h
  by_cases hi:I id
  .obtain⟨τ,xs,dh,v,l0,l',k1,k2,k3,k4,_⟩:=t.aE id hi
   rw[k3] at h2
   simp only[a9U,b1b,a8z] at h2
   obtain⟨rfl,_⟩:=h2
   exact⟨by rw[k2];rfl,l',k4,h3⟩
  .exact key λ j hj=>by
    have:=a8s (show Nat.beq id j=true from hj)
    subst this;exact hi
 | fF id i off sz =>
  obtain⟨h1,b,n,cap,l,h2,h3⟩:=h
  by_cases hi:I id
  .obtain⟨τ,xs,dh,v,l0,l',k1,k2,k3,k4,_⟩:=t.aE id hi
   rw[k3] at h2
   simp only[a9U,b1b,a8z] at h2
   obtain⟨rfl,_⟩:=h2
   exact⟨by rw[k2];rfl,b,n,cap,l',k4,h3⟩
  .exact key λ j hj=>by
    have:=a8s (show Nat.beq id j=true from hj)
    subst this;exact hi
 | sub id i off sz=>cases hu
 | ptr id off =>
  refine key λ j hj=>?_
  have:=a8s (show Nat.beq id j=true from hj)
  subst this
  obtain⟨_,_,_,h3⟩:=h
  exact noT id (by match hl:lk id,h3 with|some (.box _),_=>rfl)
 | row id =>
  refine key λ j hj=>?_
  have:=a8s (show Nat.beq id j=true from hj)
  subst this
  exact noT id (uR h.2.1)
 | eY id i off =>
  refine key λ j hj=>?_
  have:=a8s (show Nat.beq id j=true from hj)
  subst this
  obtain⟨_,_,_,_,_,_,_,h3,_⟩:=h
  exact noT id (by rw[h3];rfl)
 | mp id =>
  refine key λ j hj=>?_
  have:=a8s (show Nat.beq id j=true from hj)
  subst this
  exact noT id (Jq h.2.1)
 | agg cs=>exact h.elim
 | kW cs=>exact h.elim
 | dq f cs=>exact h.elim
 | _=>exact key λ j hj=>by cases hj
theorem rI:∀ {cs:List AV} {v:AV},AV.rH cs=false->v∈cs->v.Nk=false
 | u::r,v,h,hm=>by
  simp only[AV.rH] at h
  split at h
  .cases h
  .rename_i hu
   rcases a8I.1 hm with rfl|hm
   .exact hu
   .exact rI h hm
theorem CR.fK{tq:Nat->Value}{rM:Nat->List Nat}{I:Nat->Prop}{lk':Nat->Option aB}(t:IW c G lk lk' w w' tq rM I)(cw:∀ b,St c G.S b->w'.heap[b]?=w.heap[b]?){u:AV}{x:Value}(hu:u.Nk=false)(h:CR c G lk w u x):CR c ⟨G.S,tq,rM⟩ lk' w' u x:=by
 cases u with
 | aW v=>exact fA.mono (G:=G) (G':=⟨G.S,tq,rM⟩) h (λ _ h=>h) (λ b hb=>cw b (.inl hb))
 | agg cs =>
  obtain⟨l,h1,h2⟩:=h
  exact⟨l,h1,h2.imp λ u y hm hy=>hy.fK t cw (rI (show AV.rH cs=false from hu) hm)⟩
 | _=>exact C1.Yr (C1.fK t cw hu h)
theorem VR.fK{tq:Nat->Value}{rM:Nat->List Nat}{I:Nat->Prop}{lk':Nat->Option aB}(t:IW c G lk lk' w w' tq rM I)(cw:∀ b,St c G.S b->w'.heap[b]?=w.heap[b]?){u:AV}{x:Value}(hu:u.Nk=false)(h:VR c G lk w u x):VR c ⟨G.S,tq,rM⟩ lk' w' u x:=by
 cases u with
 | aW v=>exact fA.mono (G:=G) (G':=⟨G.S,tq,rM⟩) h (λ _ h=>h) (λ b hb=>cw b (.inl hb))
 | agg cs =>
  obtain⟨l,h1,h2⟩:=h
  exact⟨l,h1,h2.imp λ u y hm hy=>hy.fK t cw (rI (show AV.rH cs=false from hu) hm)⟩
 | kW vs =>
  obtain⟨l,h1,h2⟩:=h
  refine⟨l,h1,h2.imp λ u y hm hy=>?_⟩
  have hu':=rI (show AV.rH vs=false from hu) hm
  cases u with
  | any=>trivial
  | aW v=>exact fA.mono (G:=G) (G':=⟨G.S,tq,rM⟩) hy (λ _ h=>h) (λ b hb=>cw b (.inl hb))
  | aE i=>exact C1.fK (u := .aE i) t cw rfl hy
  | dn v=>exact C1.fK (u := .dn v) t cw rfl hy
  | agg cs =>
   obtain⟨l,h1,h2⟩:=hy
   exact⟨l,h1,h2.imp λ u y hm hy=>hy.fK t cw (rI (show AV.rH cs=false from hu') hm)⟩
  | _=>exact hy.elim
 | any=>trivial
 | eG=>exact h
 | nil=>exact (C1.fK (u := .nil) t cw hu h).iU
 | dn u=>exact (C1.fK (u := .dn u) t cw hu h).iU
 | ptr i o=>exact (C1.fK (u := .ptr i o) t cw hu h).iU
 | row i=>exact (C1.fK (u := .row i) t cw hu h).iU
 | eY i k o=>exact (C1.fK (u := .eY i k o) t cw hu h).iU
 | fn f=>exact (C1.fK (u := .fn f) t cw hu h).iU
 | aE i=>exact (C1.fK (u := .aE i) t cw hu h).iU
 | sub i k o z=>cases hu
 | mp i=>exact (C1.fK (u := .mp i) t cw hu h).iU
 | fF i k o z=>exact (C1.fK (u := .fF i k o z) t cw hu h).iU
 | kI v=>exact (C1.fK (u := .kI v) t cw hu h).iU
 | dq f cs =>
  obtain⟨l,h1,h2⟩:=h
  exact⟨l,h1,h2.imp λ u y hm hy=>hy.fK t cw (rI (show AV.rH cs=false from hu) hm)⟩
theorem bz.fK(h:bz c G sl n lk a w){tq:Nat->Value}{rM:Nat->List Nat}{I:Nat->Prop}{lk':Nat->Option aB}(t:IW c G lk lk' w w' tq rM I)(hs:∀ i,(sl i).Nk=false)(SA:∀ id cs,lk id=some (.box cs)->AV.rH cs=false) :
  bz c ⟨G.S,tq,rM⟩ sl n lk' a w':=by
 have pl:∀ id b,I id->b∈G.φ id->(c.w0.heap.size<=b\/c.X b)/\¬ G.S b/\b<w.heap.size/\∀ i o,lk i=some o->eV (G.η i)≠some b:=λ id b hi hb=>by
  obtain⟨τ,xs,_,_,_,_,h1,_⟩:=t.aE id hi
  exact h.bc.pl id τ xs b h1 hb
 have a0c:∀ b,b<w.heap.size->((c.w0.heap.size<=b\/c.X b)->False)->w'.heap[b]?=w.heap[b]?:=λ b hb hn=>t.heap b hb λ id hi kJ=>hn (pl id b hi kJ).1
 have cw:∀ b,St c G.S b->w'.heap[b]?=w.heap[b]?:=λ b hb=>by
  rcases hb with hb|hb
  .exact t.heap b (h.ez b hb) λ id hi kJ=>(pl id b hi kJ).2.1 hb
  .exact a0c b (a8G hb.1 h.aU.size) λ hn=>hn.elim (λ q=>by omega) hb.2.1
 have l7:∀ id o b,lk id=some o->eV (G.η id)=some b->w'.heap[b]?=w.heap[b]?:=λ id o b ho hb =>
  t.heap b (h.place id o b ho hb).2.2 λ j hj kJ=>(pl j b hj kJ).2.2.2 id o ho hb
 have iM:∀ id b,eV (tq id)=some b->¬ I id/\eV (G.η id)=some b:=λ id b hb=>by
  by_cases hi:I id
  .obtain⟨_,_,_,_,_,_,_,_,_,h4,_⟩:=t.aE id hi
   rw[h4] at hb;cases hb
  .rw[(t.same id hi).2.1] at hb;exact⟨hi,hb⟩
 have u6:∀ id τ xs b,lk' id=some (.aE τ xs)->b∈rM id->(∃ dO bo dh,lk dO=some (.aE bo dh)/\b∈G.φ dO/\(¬ I id->dO=id)/\(I id->I dO))\/(I id/\xu c G lk w' b):=λ id τ xs b bf hb=>by
  by_cases hi:I id
  .rcases t.a4B id b hi hb with ⟨dO,qd,cD⟩|Wj
   .obtain⟨bo,dh,_,_,_,_,h1,_⟩:=t.aE dO qd
    exact .inl ⟨dO,bo,dh,h1,cD,λ hn=>absurd hi hn,λ _=>qd⟩
   .exact .inr ⟨hi,Wj⟩
  .obtain⟨h1,h2,h3⟩:=t.same id hi
   rw[h1] at bf
   rw[h3] at hb
   exact .inl ⟨id,τ,xs,bf,hb,λ _=>rfl,λ qd=>absurd qd hi⟩
 exact {
  defers:=h.defers,size:=h.size
  aU:=h.aU.trans (Y:=λ b=>c.w0.heap.size<=b\/c.X b) ⟨t.os,t.tape,t.output,t.size,λ b hb hn=>a0c b hb hn⟩ λ i hi hy=>hy.elim (λ q=>by omega) id
  oE:=h.oE,fE:=h.fE,sX:=h.sX
  ez:=λ b hb=>a8G (h.ez b hb) t.size
  aC:=λ i=>(h.aC i).fK t cw (hs i)
  aK:=λ id o bf=>by
   by_cases hi:I id
   .obtain⟨τ,xs,dh,_,_,_,_,h2,_⟩:=t.aE id hi
    rw[h2] at bf
    simp only[a8o] at bf
    subst bf
    trivial
   .obtain⟨h1,h2,h3⟩:=t.same id hi
    rw[h1] at bf
    have ho:=h.aK id o bf
    cases o with
    | box cs =>
     obtain⟨b,l,ty,k1,k2,k3⟩:=ho
     refine⟨b,l,ty,h2.trans k1,?_,k3.imp λ u y hm hy=>hy.fK t cw (rI (SA id cs bf) hm)⟩
     rw[l7 id _ b bf (by rw[k1];rfl)];exact k2
    | row e τ xs =>
     obtain⟨l,k1,k2,k3⟩:=ho
     refine⟨l,?_,fw.aU (λ _ h=>h) (λ b hb=>cw b (.inl hb)) _ k2,k3⟩
     rw[show (⟨G.S,tq,rM⟩:Gh).η id=G.η id from h2]
     exact Js k1 λ b hb=>l7 id _ b bf hb
    | aE τ xs=>trivial
    | map m =>
     obtain⟨b,es,clock,k1,k2,k3⟩:=ho
     exact⟨b,es,clock,h2.trans k1,(l7 id _ b bf (by rw[k1];rfl)).trans k2,k3⟩
  place:=λ id o b bf hb=>by
   obtain⟨hi,hb⟩:=iM id b hb
   rw[(t.same id hi).1] at bf
   obtain⟨q1,q2,q3⟩:=h.place id o b bf hb
   exact⟨q1,q2,a8G q3 t.size⟩
  apart:=λ id dO o o' b bf Ge hb cD=>by
   obtain⟨hi,hb⟩:=iM id b hb
   obtain⟨qd,cD⟩:=iM dO b cD
   rw[(t.same id hi).1] at bf
   rw[(t.same dO qd).1] at Ge
   exact h.apart id dO o o' b bf Ge hb cD
  bc:={
   tr:=λ id τ xs bf=>by
    by_cases hi:I id
    .obtain⟨τ0,xs0,dh,v,l,l',h1,h2,h3,h4,h5,h6⟩:=t.aE id hi
     rw[h2] at bf
     simp only[a8o,aB.aE.injEq] at bf
     obtain⟨rfl,bf⟩:=bf
     have bf:=b1Z bf
     subst bf
     exact h5
    .obtain⟨h1,h2,h3⟩:=t.same id hi
     rw[h1] at bf
     rw[show (⟨G.S,tq,rM⟩:Gh).η id=G.η id from h2,show (⟨G.S,tq,rM⟩:Gh).φ id=G.φ id from h3]
     exact (h.bc.tr id τ xs bf).aU λ b hb=>t.heap b (h.bc.pl id τ xs b bf hb).2.2.1 λ j hj kJ=>by
      obtain⟨bo,dh,_,_,_,_,k1,_⟩:=t.aE j hj
      have:=h.bc.ap id j τ bo xs dh b bf k1 hb kJ
      subst this
      exact hi hj
   nd:=λ id τ xs bf=>by
    by_cases hi:I id
    .obtain⟨_,_,_,_,_,_,_,_,_,_,_,h6⟩:=t.aE id hi
     exact h6
    .obtain⟨h1,h2,h3⟩:=t.same id hi
     rw[h1] at bf
     rw[show (⟨G.S,tq,rM⟩:Gh).φ id=G.φ id from h3]
     exact h.bc.nd id τ xs bf
   pl:=λ id τ xs b bf hb=>by
    have hq:(c.w0.heap.size<=b\/c.X b)/\¬ G.S b/\b<w'.heap.size/\∀ i o,lk i=some o->eV (G.η i)≠some b:=by
     rcases u6 id τ xs b bf hb with ⟨dO,bo,dh,k1,k2,_⟩|⟨_,f1,f2,f3,f4,_⟩
     .obtain⟨f1,f2,f3,f4⟩:=h.bc.pl dO bo dh b k1 k2
      exact⟨f1,f2,a8G f3 t.size,f4⟩
     .exact⟨f1,f2,f3,f4⟩
    obtain⟨q1,q2,q3,q4⟩:=hq
    refine⟨q1,q2,q3,λ i o cE xN=>?_⟩
    obtain⟨hi,xN⟩:=iM i b xN
    rw[(t.same i hi).1] at cE
    exact q4 i o cE xN
   ap:=λ id dO τ bo xs dh b bf Ge hb cD=>by
    by_cases hi:I id
    .by_cases qd:I dO
     .exact t.apart id dO b hi qd hb cD
     .rcases u6 dO bo dh b Ge cD with ⟨j',n9,pW,m1,m2,m3,_⟩|⟨q,_⟩
      .rcases u6 id τ xs b bf hb with ⟨j,UD,UC,k1,k2,_,k4⟩|⟨_,Wj⟩
       .have:=h.bc.ap j j' _ _ _ _ b k1 m1 k2 m2
        have e:=m3 qd
        subst e this
        exact absurd (k4 hi) qd
       .exact absurd m2 (Wj.2.2.2.2 j' n9 pW m1)
      .exact absurd q qd
    .by_cases qd:I dO
     .rcases u6 id τ xs b bf hb with ⟨j,UD,UC,k1,k2,k3,_⟩|⟨q,_⟩
      .rcases u6 dO bo dh b Ge cD with ⟨j',n9,pW,m1,m2,_,m4⟩|⟨_,Wj⟩
       .have:=h.bc.ap j j' _ _ _ _ b k1 m1 k2 m2
        have e:=k3 hi
        subst e this
        exact absurd (m4 qd) hi
       .exact absurd k2 (Wj.2.2.2.2 j UD UC k1)
      .exact absurd q hi
     .rcases u6 id τ xs b bf hb with ⟨j,UD,UC,k1,k2,k3,_⟩|⟨q,_⟩
      .rcases u6 dO bo dh b Ge cD with ⟨j',n9,pW,m1,m2,m3,_⟩|⟨q,_⟩
       .have:=h.bc.ap j j' _ _ _ _ b k1 m1 k2 m2
        exact (k3 hi).symm.trans (this.trans (m3 qd))
       .exact absurd q qd
      .exact absurd q hi }
  root:=λ id v hr ht=>by
   by_cases hi:I id
   .obtain⟨τ,xs,dh,v0,l,l',k1,k2,k3,k4,_⟩:=t.aE id hi
    obtain⟨l2,h2⟩:=h.root id v hr (by rw[k1];rfl)
    rw[k3] at h2
    simp only[a9U,b1b,a8z] at h2
    obtain⟨rfl,_⟩:=h2
    exact⟨l',k4⟩
   .obtain⟨h1,h2,_⟩:=t.same id hi
    rw[h1] at ht
    rw[show (⟨G.S,tq,rM⟩:Gh).η id=G.η id from h2]
    exact h.root id v hr ht
  lj:=h.lj
  dQ:=λ id v hr ht=>by
   by_cases hi:I id
   .obtain⟨τ,xs,dh,v0,l,l',k1,k2,k3,k4,_⟩:=t.aE id hi
    rw[k2] at ht
    cases ht
   .obtain⟨h1,h2,_⟩:=t.same id hi
    rw[h1] at ht
    rw[show (⟨G.S,tq,rM⟩:Gh).η id=G.η id from h2]
    exact h.dQ id v hr ht
  gu:=h.gu }
theorem bz.Tk(h:bz c G sl n lk a w){d:Nat}(hd:lk d=none):(∀ i,(sl i).refs d=false)/\∀ i o,lk i=some o->o.refs d=false:=by
 have c1:∀ (v:AV) (x:Value),C1 c G lk w v x->v.refs d=true->False:=λ v x hv hr=>by
  have k9:∀ i,Nat.beq i d=true->iy (lk i)=false/\isRow (lk i)=false/\dw (lk i)=false/\∀ e τ xs,lk i≠some (.row e τ xs):=λ i hi=>by
   have:=a8s hi
   subst this
   rw[hd]
   exact⟨rfl,rfl,rfl,λ _ _ _=>by simp⟩
  cases v with
  | ptr i o=>obtain⟨_,_,_,h3⟩:=hv;rw[(k9 i hr).1] at h3;cases h3
  | row i=>obtain⟨_,h3,_⟩:=hv;rw[(k9 i hr).2.1] at h3;cases h3
  | eY i k o=>obtain⟨_,_,_,_,_,_,_,h3,_⟩:=hv;exact (k9 i hr).2.2.2 _ _ _ h3
  | aE i=>have h3:=hv.1;rw[(k9 i hr).2.2.1] at h3;cases h3
  | sub i k o z=>have h3:=hv.1;rw[(k9 i hr).2.2.1] at h3;cases h3
  | fF i k o z=>have h3:=hv.1;rw[(k9 i hr).2.2.1] at h3;cases h3
  | mp i =>
   have h3:=hv.2.1
   have:=a8s (show Nat.beq i d=true from hr)
   subst this
   rw[hd] at h3;cases h3
  | agg cs=>exact hv
  | kW cs=>exact hv
  | dq f cs=>exact hv
  | _=>cases hr
 have cL:∀ (cs:List AV) (l:List Value),aT (C1 c G lk w) cs l->AV.iz d cs=true->False:=by
  intro cs
  induction cs with
  | nil=>intro l _ hr;cases hr
  | cons v r ih =>
   intro l hl hr
   match l,hl with
   | x::l,hl =>
    simp only[AV.iz] at hr
    split at hr
    .rename_i hv;exact c1 v x hl.1 hv
    .exact ih l hl.2 hr
 refine⟨λ i=>?_,λ i o ho=>?_⟩
 .cases hr:(
        sl i).refs d with
  | false=>rfl
  | true =>
   have hv:=h.aC i
   revert hv hr
   generalize a.tmps.getD i undef=x
   cases sl i with
   | aW u=>intro hr;cases hr
   | agg cs =>
    intro hr hv
    obtain⟨l,_,hl⟩:=hv
    exact (cL cs l hl hr).elim
   | kW vs =>
    intro hr hv
    obtain⟨l,_,hl⟩:=hv
    have:∀ (
         vs:List AV) (l:List Value),aT (TR c G lk w) vs l->AV.iz d vs=true->False:=by
     intro vs
     induction vs with
     | nil=>intro l _ hr;cases hr
     | cons v r ih =>
      intro l hl hr
      match l,hl with
      | x::l,hl =>
       simp only[AV.iz] at hr
       split at hr
       .rename_i hv
        have h1:=hl.1
        cases v with
        | aE i=>exact c1 (.aE i) x h1 hv
        | agg cs =>
         obtain⟨l',_,wY⟩:=h1
         exact cL cs l' wY hv
        | aW u=>cases hv
        | dn u=>cases hv
        | any=>cases hv
        | _=>exact h1
       .exact ih l hl.2 hr
    exact (this vs l hl hr).elim
   | dq f vs =>
    intro hr hv
    obtain⟨l,_,hl⟩:=hv
    have:∀ (vs:List AV) (l:List Value),aT (CR c G lk w) vs l->AV.iz d vs=true->False:=by
     intro vs
     induction vs with
     | nil=>intro l _ hr;cases hr
     | cons v r ih =>
      intro l hl hr
      match l,hl with
      | x::l,hl =>
       simp only[AV.iz] at hr
       split at hr
       .rename_i hv
        rcases hl.1.inv with ⟨u,rfl,_⟩|⟨cs,l',rfl,_,wY⟩|h1
        .cases hv
        .exact cL cs l' wY hv
        .exact c1 _ x h1 hv
       .exact ih l hl.2 hr
    exact (this vs l hl hr).elim
   | any=>intro hr;cases hr
   | eG=>intro hr;cases hr
   | nil=>intro hr;cases hr
   | dn u=>intro hr;cases hr
   | fn f=>intro hr;cases hr
   | kI v=>intro hr;cases hr
   | ptr i o=>intro hr hv;exact (c1 (.ptr i o) x hv hr).elim
   | row i=>intro hr hv;exact (c1 (.row i) x hv hr).elim
   | eY i k o=>intro hr hv;exact (c1 (.eY i k o) x hv hr).elim
   | aE i=>intro hr hv;exact (c1 (.aE i) x hv hr).elim
   | sub i k o z=>intro hr hv;exact (c1 (.sub i k o z) x hv hr).elim
   | fF i k o z=>intro hr hv;exact (c1 (.fF i k o z) x hv hr).elim
   | mp i=>intro hr hv;exact (c1 (.mp i) x hv hr).elim
 .cases hr:o.refs d with
  | false=>rfl
  | true =>
   cases o with
   | row e τ xs=>cases hr
   | aE τ xs=>cases hr
   | map m=>cases hr
   | box cs =>
    obtain⟨b,l,t,_,_,k3⟩:=h.aK i _ ho
    exact (cL cs l k3 hr).elim
structure Ext(G:Gh)(lk:Nat->Option aB)(G':Gh)(lk':Nat->Option aB):Prop where
 S:G'.S=G.S
 old:∀ i o,lk i=some o->lk' i=some o/\G'.η i=G.η i/\G'.φ i=G.φ i
theorem Ext.refl(G:Gh)(lk:Nat->Option aB):Ext G lk G lk:=⟨rfl,λ _ _ h=>⟨h,rfl,rfl⟩⟩
theorem Ext.trans{G1 G2 G3:Gh}{l1 l2 l3:Nat->Option aB}(h:Ext G1 l1 G2 l2)(k:Ext G2 l2 G3 l3):Ext G1 l1 G3 l3 :=
 ⟨k.S.trans h.S,λ i o ho=>by
  obtain⟨a1,a2,a3⟩:=h.old i o ho
  obtain⟨b1,b2,b3⟩:=k.old i o a1
  exact⟨b1,b2.trans a2,b3.trans a3⟩⟩
theorem C1.ext{G':Gh}{lk':Nat->Option aB}(e:Ext G lk G' lk'){v:AV}{x:Value}(h:C1 c G lk w v x):C1 c G' lk' w v x:=by
 refine h.mono (λ id bf=>?_) (λ b hb=>by rw[e.S];exact hb) (λ _ _=>rfl)
 have fG:lk id≠none:=λ hn=>by
  cases v with
  | ptr i o=>have:=a8s (show Nat.beq i id=true from bf);subst this;obtain⟨_,_,_,h3⟩:=h;rw[hn] at h3;cases h3
  | row i=>have:=a8s (show Nat.beq i id=true from bf);subst this;obtain⟨_,h3,_⟩:=h;rw[hn] at h3;cases h3
  | eY i k o=>have:=a8s (show Nat.beq i id=true from bf);subst this;obtain⟨_,_,_,_,_,_,_,h3,_⟩:=h;rw[hn] at h3;cases h3
  | aE i=>have:=a8s (show Nat.beq i id=true from bf);subst this;have h3:=h.1;rw[hn] at h3;cases h3
  | sub i k o z=>have:=a8s (show Nat.beq i id=true from bf);subst this;have h3:=h.1;rw[hn] at h3;cases h3
  | fF i k o z=>have:=a8s (show Nat.beq i id=true from bf);subst this;have h3:=h.1;rw[hn] at h3;cases h3
  | mp i=>have:=a8s (show Nat.beq i id=true from bf);subst this;have h3:=h.2.1;rw[hn] at h3;cases h3
  | agg cs=>exact h
  | kW cs=>exact h
  | dq f cs=>exact h
  | _=>cases bf
 match hl:lk id,fG with
 | some o,_ =>
  obtain⟨h1,h2,_⟩:=e.old id o hl
  rw[h1]
  exact⟨fb.refl _,h2⟩
def Fr(c:Ctx)(G:Gh)(lk:Nat->Option aB)(w:World)(fp:List Nat):Prop :=
 ∀ b∈fp,(c.w0.heap.size<=b\/c.X b)/\¬ G.S b/\b<w.heap.size/\(∀ i o,lk i=some o->eV (G.η i)≠some b)/\∀ j τ xs,lk j=some (.aE τ xs)->b∉G.φ j
def jJ(news:List (Nat×aB))(lk:Nat->Option aB)(i:Nat):Option aB:=match af news i with
 | some o=>some o
 | none=>lk i
theorem a2S(lk:Nat->Option aB):jJ [] lk=lk:=rfl
theorem a0X(id:Nat)(o:aB)(r:List (Nat×aB))(lk:Nat->Option aB)(hr:af r id=none):jJ r (λ i=>if i=id then some o else lk i)=jJ ((id,o)::r) lk:=by
 funext i
 unfold jJ
 rw[dP]
 by_cases hi:i=id
 .subst hi;rw[hr];simp
 .simp[hi]
theorem Qd:∀ (r r':List (Nat×aB)) (lk:Nat->Option aB),jJ (r++r') lk=jJ r (jJ r' lk)
 | [],r',lk=>rfl
 | (id,o)::r,r',lk=>by
  funext i
  have:=congrFun (Qd r r' lk) i
  unfold jJ at this ⊢
  rw[a9y,dP,dP]
  by_cases hi:i=id
  .simp[hi]
  .simpa [hi] using this
theorem lA.a2X{τ:Ty}{xs:List τ.den}{x:Value}{fp:List Nat}(h:Ow w (.slice τ.size (xs.map τ.aR)) [x] fp):∃ l,lA w (.tuple (x::l).toArray) τ xs fp/\∃ a n m,x = .slice a n m:=by
 obtain⟨a',cap,h1,h2,h3,h4,h5⟩:=h
 simp only[a8z,a8F,a8R] at h1 h2 h4
 subst h1
 rcases h5 with ⟨hx,ha,hf⟩|⟨b,f,l,t,ha,hf,k1,k2⟩
 .refine⟨[],⟨_,[],a',cap,rfl,rfl,h2,h3,h4, .inl ⟨?_,ha,hf⟩⟩,_,_,_,rfl⟩
  simpa using hx
 .exact⟨l,⟨_,l,a',cap,rfl,rfl,h2,h3,h4, .inr ⟨b,f,t,ha,hf,k1,k2⟩⟩,_,_,_,rfl⟩
theorem Ow.a5L{η:Value}{τ:Ty}{xs:List τ.den}{fp:List Nat}(h:lA w η τ xs fp){x:Value}{l:List Value}(hx:η = .tuple (x::l).toArray):Ow w (.slice τ.size (xs.map τ.aR)) [x] fp:=by
 obtain⟨v,l',a',cap,h1,h2,h3,h4,h5,h6⟩:=h
 rw[hx] at h1
 simp only[a9U,b1b,a8z] at h1
 obtain⟨rfl,rfl⟩:=h1
 refine⟨a',cap,by simp[h2],by simpa using h3,h4,by simpa using h5,?_⟩
 rcases h6 with ⟨rfl,q1,q2⟩|⟨b,f,t,q1,q2,q3,q4⟩
 .exact .inl ⟨rfl,q1,q2⟩
 .exact .inr ⟨b,f,l,t,q1,q2,q3,q4⟩
theorem ik:∀ {l:List (Nat×aB)} {id:Nat} {o:aB},af l id=some o->(id,o)∈l
 | (k,p)::r,id,o,h=>by
  simp only[af] at h
  split at h
  .rename_i hk
   have hk:=a8s hk
   simp only[a8o] at h
   subst hk h
   simp
  .exact b0d _ (ik h)
theorem bz.a1I(h:bz c G sl n lk a w){u:TV}(hu:u.τ.agg=false){x:Value}{fp:List Nat}{id:Nat}(hO:Ow w u.aR [x] fp)(dr:fp.Nodup)(hF:Fr c G lk w fp)(bf:∀ p∈gL id u,lk p.1=none)(hR:c.R id=none) :
  ∃ G',bz c G' sl n (jJ (gL id u) lk) a w/\Ext G lk G' (jJ (gL id u) lk)/\C1 c G' (jJ (gL id u) lk) w (n6 id u) x /\
   ∀ fq,Fr c G lk w fq->(∀ b∈fq,b∉fp)->Fr c G' (jJ (gL id u) lk) w fq:=by
 have AG:(gL id u=[]/\n6 id u = .aW u)->∃ G',bz c G' sl n (jJ (gL id u) lk) a w/\Ext G lk G' (jJ (gL id u) lk)/\C1 c G' (jJ (gL id u) lk) w (n6 id u) x /\
   ∀ fq,Fr c G lk w fq->(∀ b∈fq,b∉fp)->Fr c G' (jJ (gL id u) lk) w fq:=by
  rintro⟨e1,e2⟩
  rw[e1,e2]
  exact⟨G,h,Ext.refl _ _,⟨hu,hO.rd (S:=λ b=>b∈fp) _ (λ _ h=>h) |> λ hr=>by
   obtain⟨τ,y⟩:=u
   cases τ with
   | slice t=>simp[gL] at e1
   | mv t=>simp[n6] at e2
   | ptr=>exact hr
   | st s=>cases hu
   | int k=>exact hr
   | bool=>exact hr
   | str=>exact hr⟩,λ fq hq _=>hq⟩
 obtain⟨τ,y⟩:=u
 cases τ with
 | mv t=>exact⟨G,h,Ext.refl _ _,trivial,λ fq hq _=>hq⟩
 | slice t =>
  obtain⟨l,hT,KK⟩:=lA.a2X (τ:=t) (xs:=y) hO
  have hn:lk id=none:=bf (id, .aE t y) (by simp[gL])
  obtain⟨QJ,Zg⟩:=h.Tk hn
  have hI:=h.Tg id t y _ fp hn QJ Zg hR hT dr hF
  have cG:jJ (gL id ⟨.slice t,y⟩) lk=λ i=>if i=id then some (.aE t y) else lk i:=by
   rw[<-a2S (λ i=>if i=id then some (aB.aE t y) else lk i),a0X id _ [] lk rfl];rfl
  rw[cG]
  refine⟨_,hI,⟨rfl,λ i o ho=>?_⟩,⟨by simp[dw],l,by simp,KK⟩,λ fq hq zT b hb=>?_⟩
  .have hi:i≠id:=λ e=>by subst e;rw[hn] at ho;cases ho
   simp[hi,ho]
  .obtain⟨q1,q2,q3,q4,q5⟩:=hq b hb
   refine⟨q1,q2,q3,λ i o cE e=>?_,λ j τ xs hj=>?_⟩
   .by_cases hi:i=id
    .simp only[a8O hi] at e
     cases e
    .simp only[a8y hi] at cE e
     exact q4 i o cE e
   .by_cases hi:j=id
    .simp only[a8O hi];exact zT b hb
    .simp only[a8y hi] at hj ⊢
     exact q5 j τ xs hj
 | st s=>cases hu
 | ptr=>exact AG ⟨rfl,rfl⟩
 | int k=>exact AG ⟨rfl,rfl⟩
 | bool=>exact AG ⟨rfl,rfl⟩
 | str=>exact AG ⟨rfl,rfl⟩
theorem Qf{id:Nat}{u:TV}{p:Nat×aB}(h:p∈gL id u):p.1=id:=by
 obtain⟨τ,y⟩:=u
 cases τ<;>simp[gL] at h
 rw[h]
theorem S3{r:List (Nat×aB)}{i:Nat}(h:∀ p∈r,p.1≠i):af r i=none:=by
 induction r with
 | nil=>rfl
 | cons p r ih =>
  obtain⟨k,o⟩:=p
  rw[dP,a8y (λ e=>h (k,o) (by simp) e.symm)]
  exact ih λ q hq=>h q (by simp[hq])
theorem bz.Bv:∀ {us:List TV} {cs:List Value} {fp:List Nat} {id:Nat} {G:Gh} {lk:Nat->Option aB},bz c G sl n lk a w->(∀ u∈us,u.τ.agg=false)->di w (us.map TV.aR) cs fp->fp.Nodup->Fr c G lk w fp ->
  (∀ p∈cd id us,lk p.1=none)->((cd id us).map (·.1)).Nodup->(∀ j,id<=j->c.R j=none) ->
  ∃ G' lk',(∀ i,lk' i=jJ (cd id us) lk i)/\bz c G' sl n lk' a w/\Ext G lk G' lk'/\aT (C1 c G' lk' w) (cv id us) cs/\∀ fq,Fr c G lk w fq->(∀ b∈fq,b∉fp)->Fr c G' lk' w fq
 | [],cs,fp,id,G,lk,h,_,hO,_,_,_,_,_=>by
  obtain⟨rfl,rfl⟩:=hO
  exact⟨G,lk,λ _=>rfl,h,Ext.refl _ _,trivial,λ fq hq _=>hq⟩
 | u::us,cs,fp,id,G,lk,h,hu,hO,dr,hF,bf,tD,hR=>by
  obtain⟨v,r,f1,f2,rfl,rfl,h1,h2⟩:=hO
  rw[a8S] at dr
  obtain⟨nd1,nd2,nd3⟩:=dr
  simp only[cd,b0n] at tD
  rw[a8S] at tD
  obtain⟨d1,d2,d3⟩:=tD
  obtain⟨G1,i1,e1,c1,YX⟩:=h.a1I (id:=id) (hu u (by simp)) h1 nd1 (λ b hb=>hF b (by simp[hb])) (λ p hp=>bf p (by simp[cd,hp])) (hR id (a9i _))
  have fG:∀ p∈cd (id+1) us,af (gL id u) p.1=none:=λ p hp=>S3 λ q hq e=>d3 q.1 (a8A.2 ⟨q,hq,rfl⟩) p.1 (a8A.2 ⟨p,hp,rfl⟩) e
  obtain⟨G2,lk2,k1,k2,k3,k4,k5⟩:=bz.Bv (us:=us) (cs:=r) (fp:=f2) (id:=id+1) i1 (λ u hu'=>hu u (by simp[hu'])) h2 nd2
   (YX f2 (λ b hb=>hF b (by simp[hb])) (λ b hb cD=>nd3 b cD b hb rfl)) (λ p hp=>by unfold jJ;rw[fG p hp];exact bf p (by simp[cd,hp])) d2 (λ j hj=>hR j (by omega))
  refine⟨G2,lk2,λ i=>?_,k2,e1.trans k3,⟨c1.ext k3,k4⟩,λ fq hq zT=>k5 fq (YX fq hq λ b hb cD=>zT b hb (by simp[cD])) λ b hb cD=>zT b hb (by simp[cD])⟩
  rw[k1 i]
  simp only[cd]
  unfold jJ
  have a6I:∀ (r r':List (Nat×aB)) (j:Nat),af (r++r') j=match af r j with|some o=>some o|none=>af r' j:=by
   intro r r' j
   induction r with
   | nil=>rfl
   | cons p r ih =>
    obtain⟨k,o⟩:=p
    rw[a9y,dP,dP]
    by_cases hj:j=k
    .simp[hj]
    .simpa [hj] using ih
  rw[a6I]
  cases hx:af (cd (id+1) us) i with
  | none=>simp only[];cases af (gL id u) i<;>rfl
  | some o =>
   simp only[]
   have hm:=ik hx
   rw[fG _ hm]
theorem RA(s:aS)(y:s.den):∀ u∈s.cells y,u.τ.agg=false:=λ u hu=>by
 have:=aS.r5 s y u hu
 obtain⟨bo,z'⟩:=u
 cases bo with
 | st s'=>simp[TV.aR,Ty.aR,aS.cF,D.leaf] at this
 | _=>rfl
theorem TR.ext{G':Gh}{lk':Nat->Option aB}(e:Ext G lk G' lk'){v:AV}{x:Value}(h:TR c G lk w v x):TR c G' lk' w v x:=by
 cases v with
 | any=>trivial
 | aW v=>exact fA.mono (G:=G) (G':=G') h (λ b hb=>by rw[e.S];exact hb) (λ _ _=>rfl)
 | aE i=>exact C1.ext (c:=c) (w:=w) (v := .aE i) e h
 | dn v=>exact C1.ext (c:=c) (w:=w) (v := .dn v) e h
 | agg cs =>
  obtain⟨l,h1,h2⟩:=h
  exact⟨l,h1,h2.imp λ u y _ hy=>hy.ext e⟩
 | _=>exact h.elim
theorem TR.iU{v:AV}{x:Value}(h:TR c G lk w v x):VR c G lk w v x:=by
 cases v with
 | any=>trivial
 | aW v=>exact h
 | aE i=>exact h
 | dn v=>exact h
 | agg cs=>exact h
 | _=>exact h.elim
theorem C1.a7C{id:Nat}{u:TV}{x:Value}(h:C1 c G lk w (n6 id u) x)(hu:u.τ.agg=false):TR c G lk w (n6 id u) x:=by
 obtain⟨τ,y⟩:=u
 cases τ with
 | slice t=>exact h
 | mv t=>exact h
 | ptr=>exact h.2
 | st s=>cases hu
 | int k=>exact h.2
 | bool=>exact h.2
 | str=>exact h.2
theorem bz.VO{v:TV}{x:Value}{fp:List Nat}{id:Nat}{G:Gh}{lk:Nat->Option aB}(h:bz c G sl n lk a w)(hO:ET w v x fp)(dr:fp.Nodup)(hF:Fr c G lk w fp)
  (bf:∀ p∈cd id v.cells,lk p.1=none) (tD:((cd id v.cells).map (·.1)).Nodup) (hR:∀ j,id<=j->c.R j=none) :
  ∃ G' lk',(∀ i,lk' i=jJ (cd id v.cells) lk i)/\bz c G' sl n lk' a w/\Ext G lk G' lk'/\TR c G' lk' w (lv id v) x/\∀ fq,Fr c G lk w fq->(∀ b∈fq,b∉fp)->Fr c G' lk' w fq:=by
 have one:v.τ.agg=false->v.cells=[v]->lv id v=n6 id v->Ow w v.aR [x] fp->∃ G' lk',(∀ i,lk' i=jJ (cd id v.cells) lk i)/\bz c G' sl n lk' a w/\Ext G lk G' lk'/\TR c G' lk' w (lv id v) x/\∀ fq,Fr c G lk w fq->(∀ b∈fq,b∉fp)->Fr c G' lk' w fq:=by
  intro hv hc hov hO
  rw[hc] at bf tD
  obtain⟨G',lk',k1,k2,k3,k4,k5⟩:=h.Bv (us:=[v]) (cs:=[x]) (fp:=fp) (by simpa using hv) ⟨x,[],fp,[],rfl,by simp,hO,rfl,rfl⟩ dr hF bf tD hR
  rw[hc,hov]
  exact⟨G',lk',k1,k2,k3,C1.a7C k4.1 hv,k5⟩
 obtain⟨τ,y⟩:=v
 cases τ with
 | st s =>
  obtain⟨cs,rfl,hO⟩:=hO
  rw[aS.cF] at hO
  obtain⟨G',lk',k1,k2,k3,k4,k5⟩:=h.Bv (us:=s.cells y) (cs:=cs) (fp:=fp) (RA s y) hO dr hF bf tD hR
  exact⟨G',lk',k1,k2,k3,⟨cs,rfl,k4⟩,k5⟩
 | slice t=>exact one rfl rfl rfl hO
 | mv t=>exact one rfl rfl rfl hO
 | ptr=>exact one rfl rfl rfl hO
 | int k=>exact one rfl rfl rfl hO
 | bool=>exact one rfl rfl rfl hO
 | str=>exact one rfl rfl rfl hO
theorem a0W{r r':List (Nat×aB)}(hd:∀ p∈r',af r p.1=none)(lk:Nat->Option aB)(i:Nat):jJ r' (jJ r lk) i=jJ (r++r') lk i:=by
 rw[Qd]
 unfold jJ
 cases hx:af r' i with
 | none=>rfl
 | some o =>
  have:=hd _ (ik hx)
  simp only[] at this ⊢
  rw[this]
theorem bz.Lq:∀ {vs:List TV} {xs:List Value} {fp:List Nat} {id:Nat} {G:Gh} {lk:Nat->Option aB},bz c G sl n lk a w->Ln w vs xs fp->fp.Nodup->Fr c G lk w fp ->
  (∀ p∈bx id vs,lk p.1=none)->((bx id vs).map (·.1)).Nodup->(∀ j,id<=j->c.R j=none) ->
  ∃ G' lk',(∀ i,lk' i=jJ (bx id vs) lk i)/\bz c G' sl n lk' a w/\Ext G lk G' lk'/\aT (TR c G' lk' w) (M8 id vs) xs/\∀ fq,Fr c G lk w fq->(∀ b∈fq,b∉fp)->Fr c G' lk' w fq
 | [],[],fp,id,G,lk,h,_,_,_,_,_,_=>⟨G,lk,λ _=>rfl,h,Ext.refl _ _,trivial,λ fq hq _=>hq⟩
 | v::vs,x::xs,fp,id,G,lk,h,hO,dr,hF,bf,tD,hR=>by
  obtain⟨f1,f2,rfl,h1,h2⟩:=hO
  rw[a8S] at dr
  obtain⟨nd1,nd2,nd3⟩:=dr
  simp only[bx,b0n] at tD
  rw[a8S] at tD
  obtain⟨d1,d2,d3⟩:=tD
  obtain⟨G1,KO,l1,i1,e1,c1,YX⟩:=h.VO (id:=id) h1 nd1 (λ b hb=>hF b (by simp[hb])) (λ p hp=>bf p (by simp[bx,hp])) d1 hR
  have fG:∀ p∈bx (id+20) vs,af (cd id v.cells) p.1=none:=λ p hp=>S3 λ q hq e=>d3 q.1 (a8A.2 ⟨q,hq,rfl⟩) p.1 (a8A.2 ⟨p,hp,rfl⟩) e
  obtain⟨G2,lk2,k1,k2,k3,k4,k5⟩:=bz.Lq (vs:=vs) (xs:=xs) (fp:=f2) (id:=id+20) i1 h2 nd2
   (YX f2 (λ b hb=>hF b (by simp[hb])) (λ b hb cD=>nd3 b cD b hb rfl)) (λ p hp=>by rw[l1 p.1];unfold jJ;rw[fG p hp];exact bf p (by simp[bx,hp])) d2 (λ j hj=>hR j (by omega))
  refine⟨G2,lk2,λ i=>?_,k2,e1.trans k3,⟨c1.ext k3,k4⟩,λ fq hq zT=>k5 fq (YX fq hq λ b hb cD=>zT b hb (by simp[cD])) λ b hb cD=>zT b hb (by simp[cD])⟩
  rw[k1 i,show KO=jJ (cd id v.cells) lk from funext l1]
  exact a0W fG lk i
 | [],_::_,_,_,_,_,_,hO,_,_,_,_,_=>hO.elim
 | _::_,[],_,_,_,_,_,hO,_,_,_,_,_=>hO.elim
theorem r6(r r':List (Nat×aB))(i:Nat):af (r++r') i=jJ r (af r') i:=by
 unfold jJ
 induction r with
 | nil=>rfl
 | cons p r ih =>
  obtain⟨k,o⟩:=p
  rw[a9y,dP,dP]
  by_cases hj:i=k
  .simp[hj]
  .simpa [hj] using ih
theorem K1{id:Nat}{res:List TV}{x:Value}{fp:List Nat}(h:JB w res x fp):∃ xs,Ln w res xs fp/\∀ (G:Gh) (lk:Nat->Option aB),aT (TR c G lk w) (M8 id res) xs->VR c G lk w (nw id res) x:=by
 match res,h with
 | [v],h=>exact⟨[x],⟨fp,[],by simp,h,rfl⟩,λ G lk ha=>ha.1.iU⟩
 | [],h =>
  obtain⟨l,h1,h2⟩:=h
  exact⟨l,h2,λ G lk ha=>⟨l,h1,ha⟩⟩
 | v::u::r,h =>
  obtain⟨l,h1,h2⟩:=h
  exact⟨l,h2,λ G lk ha=>⟨l,h1,ha⟩⟩
end
section
variable {c:Ctx} {G:Gh} {s:ah} {a:Act} {w w':World}
theorem dA:∀ {l:List Nat},nodupB l=true->l.Nodup
 | [],_=>a9F
 | a::r,h=>by
  simp only[nodupB] at h
  split at h
  .cases h
  .rename_i hc
   exact List.nodup_cons.2 ⟨by simpa using hc,dA h⟩
theorem Tv(hE:bP c.P c.E)(h:Inv c G s a w){o:Oper}{f:FuncId}{Ts:List TypeId}{vs:List AV}{xs:List Value}{Z9:List Arg}{pre:Vc}{res:List TV}{d b:Nat}{Q:Exit->Act->World->Prop}
  (has:px c.E s.af Ts vs=some Z9) (ot:aT (VR c G s.af w) vs xs) (hc:c.E.MN f Z9=some (pre,res)) (SI:pre.ok) (hd:o.dst=some d)
  (vP:∀ p∈bx b res,s.af p.1=none) (tD:((bx b res).map (·.1)).Nodup) (hR:100<=b)
  (cZ:pX c.P f->(execOp a.eval o).run c.P w = .ok (.enter f xs.toArray) w) :
  o.wp c.P a w (λ a' w'=>∃ G',Inv c G' { aC:=s.aC.set d (nw b res),aK:=bx b res++s.aK } a' w') Q:=by
 obtain⟨vO,rp⟩:=hE.MN f Z9 pre res hc SI
 unfold Oper.wp
 rw[cZ vO]
 simp only[Oper.upon]
 refine (rp w (SX G s.af) xs [] ?_ (.Tm (kE hE h (λ _ _ h=>h) (λ _ h => .inl h) (λ τ v x y h1 h2=>CZ h.bc h.aK (λ _ _ h=>h) h1 h2) has ot)) (.inl rfl) a9F (by simp)).mono ?_
 .exact h.a0B
 .rintro e w' ⟨x,fp,rfl,hk,hO,dr,u6⟩
  have hk:bN (λ _=>False) w w':=⟨hk.os,hk.tape,hk.output,hk.size,λ b hb _=>hk.block b hb (by simp)⟩
  have u6:∀ b∈fp,w.heap.size<=b/\b<w'.heap.size:=λ b hb=>(u6 b hb).resolve_left (by simp)
  have hI:=bz.grow h hk (S':=G.S) (λ _ _=>b0w) (λ b hb=>a8G (h.ez b hb) hk.size)
  obtain⟨ys,AX,Uo⟩:=K1 (c:=c) (id:=b) hO
  have hF:Fr c ⟨G.S,G.η,G.φ⟩ s.af w' fp:=λ b hb=>by
   obtain⟨h1,h2⟩:=u6 b hb
   have:=h.aU.size
   refine⟨.inl (by omega),λ hs=>?_,h2,λ i o' hi xN=>?_,λ j τ zs hj rn=>?_⟩
   .have:=h.ez b hs;omega
   .have:=(h.place i o' b hi xN).2.2;omega
   .have:=(h.bc.pl j τ zs b hj rn).2.2.1;omega
  obtain⟨G',lk',k1,k2,k3,k4,_⟩:=hI.Lq (id:=b) AX dr hF vP tD (λ j hj=>by
   cases hr:c.R j with
   | none=>rfl
   | some v=>have:=h.lj j v hr;omega)
  refine⟨G',?_⟩
  have cG:ah.af { aC:=s.aC.set d (nw b res),aK:=bx b res++s.aK }=lk':=by
   funext i
   rw[k1 i]
   exact r6 _ _ i
  unfold Inv
  rw[cG,hd,show ah.sl { aC:=s.aC.set d (nw b res),aK:=bx b res++s.aK }=mZ s.aC.length s.sl (some d) (nw b res) from tn s.aC d _ _,
   show ({ aC:=s.aC.set d (nw b res),aK:=bx b res++s.aK }:ah).aC.length=s.aC.length from by simp]
  exact bz.put k2 (Uo G' lk' k4)
end
end Go.Proofs.YtmjfpcajohhbeaaGreatDoor

namespace Go.Proofs.YtmjfpcajohhbeaaGreatDoor
theorem gJ{α:Type}:∀ {l:List (Nat×α)} {id:Nat} {o:α},af l id=some o->(id,o)∈l
 | (k,p)::r,id,o,h=>by
  simp only[af] at h
  split at h
  .rename_i hk
   have hk:=a8s hk
   simp only[a8o] at h
   subst hk h
   simp
  .exact b0d _ (gJ h)
theorem xc{α:Type}:∀ {l:List (Nat×α)} {id:Nat} {o:α},(l.map (·.1)).Nodup->(id,o)∈l->af l id=some o
 | (k,p)::r,id,o,hd,h=>by
  simp only[a9k,a9j] at hd
  simp only[af]
  rcases a8I.1 h with e|h
  .simp only[a8u] at e
   obtain⟨rfl,rfl⟩:=e
   simp
  .split
   .rename_i hk
    have hk:=a8s hk
    subst hk
    exact absurd (a8A.2 ⟨_,h,rfl⟩) hd.1
   .exact xc hd.2 h
section
variable {c:Ctx} {G:Gh} {sl:Nat->AV} {n:Nat} {lk:Nat->Option aB} {a:Act} {w w':World}
abbrev TE:=Value×List Nat×aB
def Hh(A:List (Nat×TE))(G:Gh)(i:Nat):Value:=match af A i with
 | some e=>e.1
 | none=>G.η i
def AI(A:List (Nat×TE))(G:Gh)(i:Nat):List Nat:=match af A i with
 | some e=>e.2.1
 | none=>G.φ i
def Yp(A:List (Nat×TE))(lk:Nat->Option aB)(i:Nat):Option aB:=match af A i with
 | some e=>some e.2.2
 | none=>lk i
structure a1G(G:Gh)(lk:Nat->Option aB)(w':World)(id:Nat)(e:TE):Prop where
 ex:∃ τ xs dh v l l',lk id=some (.aE τ xs)/\e.2.2 = .aE τ dh/\G.η id = .tuple (v::l).toArray/\e.1 = .tuple (v::l').toArray/\lA w' e.1 τ dh e.2.1/\e.2.1.Nodup
theorem IW.ofList{A:List (Nat×TE)}(hA:∀ p∈A,a1G G lk w' p.1 p.2)(Zb:∀ p∈A,∀ b∈p.2.2.1,(∃ q∈A,b∈G.φ q.1)\/xu c G lk w' b)(Wc:∀ p∈A,∀ q∈A,∀ b∈p.2.2.1,b∈q.2.2.1->p.1=q.1)(dr:(A.map (·.1)).Nodup)
  (a5z:∀ b,b<w.heap.size->(∀ p∈A,b∉G.φ p.1)->w'.heap[b]?=w.heap[b]?) (hos:w'.os=w.os) (Zi:w'.tape=w.tape) (Vg:w'.output=w.output) (On:w.heap.size<=w'.heap.size) :
  IW c G lk (Yp A lk) w w' (Hh A G) (AI A G) (λ i=>∃ e,af A i=some e) where
 same id hi:=by
  have:af A id=none:=by
   cases hx:af A id with
   | none=>rfl
   | some e=>exact absurd ⟨e,hx⟩ hi
  simp[Yp,Hh,AI,this]
 aE id:=by
  rintro⟨e,he⟩
  obtain⟨τ,xs,dh,v,l,l',h1,h2,h3,h4,h5,h6⟩:=(hA _ (gJ he)).ex
  refine⟨τ,xs,dh,v,l,l',h1,?_,h3,?_,?_,?_⟩
  .simp only[Yp,he];rw[<-h2]
  .simp only[Hh,he];exact h4
  .simp only[Hh,AI,he];exact h5
  .simp only[AI,he];exact h6
 a4B id b:=by
  rintro⟨e,he⟩ hb
  simp only[AI,he] at hb
  rcases Zb _ (gJ he) b hb with ⟨q,hq,hbq⟩|Wj
  .exact .inl ⟨q.1,⟨q.2,xc dr hq⟩,hbq⟩
  .exact .inr Wj
 apart id dO b:=by
  rintro⟨e,he⟩ ⟨e',Cb⟩ hb cD
  simp only[AI,he] at hb
  simp only[AI,Cb] at cD
  exact Wc _ (gJ he) _ (gJ Cb) b hb cD
 heap b hb hn:=a5z b hb λ p hp=>hn p.1 ⟨p.2,xc dr hp⟩
 os:=hos
 tape:=Zi
 output:=Vg
 size:=On
def xv(G:Gh)(lk:Nat->Option aB)(ids:List Nat)(b:Nat):Prop :=
 ∃ id∈ids,(∃ τ xs,lk id=some (.aE τ xs)/\b∈G.φ id)\/∃ e τ xs,lk id=some (.row e τ xs)/\eV (G.η id)=some b
theorem xv.mono{ids Gl:List Nat}{b:Nat}(h:xv G lk ids b)(hs:∀ i∈ids,i∈Gl):xv G lk Gl b:=by
 obtain⟨id,hi,h⟩:=h
 exact⟨id,hs id hi,h⟩
theorem bz.la(h:bz c G sl n lk a w){i j:List Nat}{b:Nat}(hi:xv G lk i b)(hj:xv G lk j b)(hd:∀ x∈i,∀ y∈j,x≠y):False:=by
 obtain⟨x,hx,h1⟩:=hi
 obtain⟨y,hy,h2⟩:=hj
 rcases h1 with ⟨τ,xs,k1,k2⟩|⟨e,τ,xs,k1,k2⟩<;>rcases h2 with ⟨bo,dh,m1,m2⟩|⟨e',bo,dh,m1,m2⟩
 .exact hd x hx y hy (h.bc.ap x y τ bo xs dh b k1 m1 k2 m2)
 .exact (h.bc.pl x τ xs b k1 k2).2.2.2 y _ m1 m2
 .exact (h.bc.pl y bo dh b m1 m2).2.2.2 x _ k1 k2
 .exact hd x hx y hy (h.apart x y _ _ b k1 m1 k2 m2)
theorem vA{τ:Ty}(h:τ.AG=true)(y:τ.den):(τ.aR y).light=true:=by
 cases τ<;>first|rfl|cases h
theorem S1:∀ {l:List D},(∀ d∈l,d.light=true)->D.HB l=true
 | [],_=>rfl
 | d::ds,h=>by
  simp only[D.HB,a8r]
  exact⟨h d (by simp),S1 λ e he=>h e (b0d _ he)⟩
theorem WL{τ:Ty}(h:τ.plain=true)(y:τ.den):(τ.aR y).light=true:=by
 cases τ with
 | st s =>
  show (s.aR y).light=true
  rw[aS.cF]
  refine S1 λ d hd=>?_
  obtain⟨u,hu,rfl⟩:=a8A.1 hd
  have ht:u.τ∈s.xH:=by rw[<-aS.xF s y];exact a8A.2 ⟨u,hu,rfl⟩
  exact vA (a9a.1 h _ ht) u.x
 | slice t=>cases h
 | mv t=>cases h
 | ptr=>rfl
 | int k=>rfl
 | bool=>rfl
 | str=>rfl
theorem AH(h:bz c G sl n lk a w){τ:Ty}{v:AV}{x:Value}{y:τ.den}{ids:List Nat}(ht:fZ lk τ v=some (y,ids))(hv:C1 c G lk w v x):∃ fp,Ow w (τ.aR y) [x] fp/\fp.Nodup/\∀ b∈fp,xv G lk ids b:=by
 cases v with
 | aW u =>
  simp only[fZ] at ht
  split at ht
  .rename_i y' hs hy
   simp only[a8o,a8u] at ht
   obtain⟨rfl,rfl⟩:=ht
   have e:=TV.aY hy
   subst e
   exact⟨[],Ow.fU _ (vA hs _) hv.2,a9F,by simp⟩
  .cases ht
 | nil =>
  cases τ with
  | slice t =>
   simp only[fZ,a8o,a8u] at ht
   obtain⟨rfl,rfl⟩:=ht
   exact⟨[],⟨none,0,by rw[show x=_ from hv];rfl,by simp,by simp[maxLen],by simp, .inl ⟨rfl,⟨rfl,rfl⟩,rfl⟩⟩,a9F,by simp⟩
  | _=>cases ht
 | aE id =>
  simp only[fZ] at ht
  split at ht
  .rename_i bo xs hl
   split at ht
   .rename_i y' hy
    simp only[a8o,a8u] at ht
    obtain⟨rfl,rfl⟩:=ht
    have e:=TV.aY hy
    cases e
    obtain⟨_,l,h2,_⟩:=hv
    exact⟨G.φ id,Ow.a5L (h.bc.tr id bo xs hl) h2,h.bc.nd id bo xs hl,λ b hb=>⟨id,by simp, .inl ⟨bo,xs,hl,hb⟩⟩⟩
   .cases ht
  .cases ht
 | row id =>
  simp only[fZ] at ht
  split at ht
  .rename_i e bo xs hl
   split at ht
   .rename_i y' hp hy
    simp only[a8o,a8u] at ht
    obtain⟨rfl,rfl⟩:=ht
    have e1:=TV.aY hy
    cases e1
    obtain⟨hx,_,_⟩:=hv
    obtain⟨l,h1,h2,h3⟩:=h.aK id _ hl
    have a3O:∀ d∈xs.map bo.aR,d.light=true:=λ d hd=>by
     obtain⟨z,_,rfl⟩:=a8A.1 hd
     exact WL hp z
    rcases h1.2 with ⟨Ws,hn⟩|⟨g,cap,cur,Ws,_,hh,QG,Y8,oq,htk⟩
    .have ot:xs=[]:=a9E hn
     subst ot
     exact⟨[],⟨none,0,by rw[hx,Ws];rfl,by simp,by simp[maxLen],by simp, .inl ⟨rfl,⟨rfl,rfl⟩,rfl⟩⟩,a9F,by simp⟩
    .refine⟨[g],⟨some ⟨g,0,none⟩,cap,by rw[hx,Ws];simp,by simpa using QG,Y8,by simpa using h3, .inr ⟨g,[],cur.toList,e,rfl,rfl,by simpa using hh,?_⟩⟩,by simp,λ b hb=>?_⟩
     .have hr:=bX.fU (w:=w) (S:=G.S) (xs.map bo.aR) (l:=l) (m:=cur.toList.drop (xs.length * bo.size)) a3O h2
      rw[<-htk,a9K] at hr
      exact⟨by rw[a9v];exact oq,hr⟩
     .simp only[a9q] at hb
      subst hb
      exact⟨id,by simp, .inr ⟨e,bo,xs,hl,by rw[Ws];rfl⟩⟩
   .cases ht
  .cases ht
 | _=>cases ht
theorem eB{l1 l2:List Nat}(h1:l1.Nodup)(h2:l2.Nodup)(h3:∀ x∈l1,x∉l2):(l1++l2).Nodup:=by
 rw[a8S]
 exact⟨h1,h2,λ x hx y hy e=>h3 x hx (e ▸ hy)⟩
theorem Nq(h:bz c G sl n lk a w):∀ {cs:List AV} {ts:List Ty} {us:List TV} {ids:List Nat} {l:List Value},Np lk cs ts=some (us,ids)->aT (C1 c G lk w) cs l->ids.Nodup ->
  ∃ fp,di w (us.map TV.aR) l fp/\fp.Nodup/\(∀ b∈fp,xv G lk ids b)/\us.map TV.τ=ts
 | [],[],us,ids,l,ht,hl,_=>by
  simp only[Np,a8o,a8u] at ht
  obtain⟨rfl,rfl⟩:=ht
  match l,hl with
  | [],_=>exact⟨[],⟨rfl,rfl⟩,a9F,by simp,rfl⟩
 | cc::cs,t::ts,us,ids,l,ht,hl,dr=>by
  simp only[Np] at ht
  split at ht
  .rename_i x i hx
   split at ht
   .rename_i r j hr
    simp only[a8o,a8u] at ht
    obtain⟨rfl,rfl⟩:=ht
    match l,hl with
    | v::l,hl =>
     rw[a8S] at dr
     obtain⟨n1,n2,n3⟩:=dr
     obtain⟨f1,a1,a2,a3⟩:=AH h hx hl.1
     obtain⟨f2,b1,b2,b3,b4⟩:=Nq h hr hl.2 n2
     refine⟨f1++f2,⟨v,l,f1,f2,rfl,rfl,a1,b1⟩,eB a2 b2 λ b hb cD=>h.la (a3 b hb) (b3 b cD) (λ x hx y hy=>n3 x hx y hy),λ b hb=>?_,by simp[b4]⟩
     rcases a8t.1 hb with hb|hb
     .exact (a3 b hb).mono λ k hk=>by simp[hk]
     .exact (b3 b hb).mono λ k hk=>by simp[hk]
   .cases ht
  .cases ht
 | [],_::_,_,_,_,ht,_,_=>by cases ht
 | _::_,[],_,_,_,ht,_,_=>by cases ht
theorem vD(h:bz c G sl n lk a w){τ:Ty}{v:AV}{x:Value}{y:τ.den}{ids:List Nat}(ht:Lc lk τ v=some (y,ids))(hv:VR c G lk w v x)(dr:ids.Nodup):∃ fp,ET w ⟨τ,y⟩ x fp/\fp.Nodup/\∀ b∈fp,xv G lk ids b:=by
 have one:(∀ cs,v ≠ .agg cs)->fZ lk τ v=some (y,ids)->∃ fp,ET w ⟨τ,y⟩ x fp/\fp.Nodup/\∀ b∈fp,xv G lk ids b:=by
  intro hna ht
  have cw:∀ s,τ ≠ .st s:=λ s e=>by
   subst e
   cases v with
   | aW u=>simp[fZ,Ty.AG] at ht
   | nil=>simp[fZ] at ht
   | aE id =>
    simp only[fZ] at ht
    split at ht
    .split at ht
     .rename_i hy
      have e:=TV.aY hy
      cases e
     .cases ht
    .cases ht
   | row id =>
    simp only[fZ] at ht
    split at ht
    .split at ht
     .rename_i hy
      have e:=TV.aY hy
      cases e
     .cases ht
    .cases ht
   | _=>cases ht
  have hc:C1 c G lk w v x:=by
   refine hv.VE ?_
   cases v with
   | aW u =>
    simp only[fZ] at ht
    split at ht
    .rename_i hy
     have e:=TV.aY hy
     subst e
     cases τ<;>first|rfl|exact absurd rfl (cw _)
    .cases ht
   | nil=>rfl
   | aE id=>rfl
   | row id=>rfl
   | _=>cases ht
  obtain⟨fp,h1,h2,h3⟩:=AH h ht hc
  refine⟨fp,?_,h2,h3⟩
  cases τ with
  | st s=>exact absurd rfl (cw s)
  | _=>exact h1
 cases v with
 | agg cs =>
  cases τ with
  | st s =>
   simp only[Lc] at ht
   split at ht
   .rename_i us i oq
    split at ht
    .rename_i y' hy
     simp only[a8o,a8u] at ht
     obtain⟨rfl,rfl⟩:=ht
     obtain⟨l,rfl,hl⟩:=hv
     obtain⟨fp,h1,h2,h3,_⟩:=Nq h oq hl dr
     refine⟨fp,⟨l,rfl,?_⟩,h2,h3⟩
     rw[aS.cF,aS.qC hy]
     exact h1
    .cases ht
   .cases ht
  | _=>cases ht
 | _=>exact one (by intro cs;simp) ht
theorem di.split:∀ (ds:List D) {l:List Value} {fp:List Nat} (i:Nat) (d:D),di w ds l fp->ds[i]?=some d ->
  ∃ v f0 f1 f2,fp=f0++f1++f2/\l[i]?=some v/\Ow w d [v] f1/\∀ (w':World) (d':D) (v':Value) (lE:List Nat),(∀ b∈f0++f2,w'.heap[b]?=w.heap[b]?)->Ow w' d' [v'] lE->di w' (ds.set i d') (l.set i v') (f0++lE++f2)
 | [],_,_,_,_,_,hi=>by simp at hi
 | e::ds,_,_,0,d,h,hi=>by
  obtain⟨v,r,f1,f2,rfl,rfl,h3,h4⟩:=h
  simp at hi
  subst hi
  exact⟨v,[],f1,f2,by simp,rfl,h3,λ w' d' v' lE hw hd=>⟨v',r,lE,f2,rfl,by simp,hd,di.aU ds h4 λ b hb=>hw b (by simp[hb])⟩⟩
 | e::ds,_,_,i+1,d,h,hi=>by
  obtain⟨v,r,g1,g2,rfl,rfl,h3,h4⟩:=h
  obtain⟨u,f0,f1,f2,rfl,k1,k2,k3⟩:=di.split ds i d h4 (by simpa using hi)
  refine⟨u,g1++f0,f1,f2,by simp,by simpa using k1,k2,λ w' d' v' lE hw hd=>?_⟩
  exact⟨v,r.set i v',g1,f0++lE++f2,rfl,by simp,Ow.aU e h3 λ b hb=>hw b (by simp[hb]),k3 w' d' v' lE (λ b hb=>hw b (by simp at hb ⊢;rcases hb with hb|hb<;>simp[hb])) hd⟩
theorem Qa(v:AV):v.dm=v\/v.dm = .any:=by unfold AV.dm;split<;>simp
theorem Jf(v:AV):v.dm.Nk=false:=by
 unfold AV.dm
 split
 .rfl
 .assumption
theorem Qn:∀ cs:List AV,AV.rH (cs.map AV.dm)=false
 | []=>rfl
 | v::r=>by simp only[a9k,AV.rH,Jf];exact Qn r
theorem C1.dm{v:AV}{x:Value}(h:C1 c G lk w v x):C1 c G lk w v.dm x:=by
 rcases Qa v with e|e
 .rw[e];exact h
 .rw[e];trivial
theorem Jw(o:Option aB):fb o (o.map aB.dm):=by
 refine⟨λ h=>?_,λ e τ xs h=>⟨e,xs,by rw[h];rfl,a9i _⟩,λ h=>?_,λ h=>?_⟩
 .match o,h with
  | some (.box cs),_=>rfl
 .match o,h with
  | some (.aE τ xs),_=>rfl
 .match o,h with
  | some (.map m),_=>rfl
theorem Av{o:Option aB}{τ:Ty}{xs:List τ.den}(h:o.map aB.dm=some (.aE τ xs)):o=some (.aE τ xs):=by
 match o,h with
 | some (.aE bo dh),h=>exact h
 | some (.box _),h=>cases h
 | some (.row ..),h=>cases h
theorem bz.cM(h:bz c G sl n lk a w):bz c G (λ i=>(sl i).dm) n (λ i=>(lk i).map aB.dm) a w:=by
 have h1:bz c G (λ i=>(sl i).dm) n lk a w:=h.forget λ i=>Qa (sl i)
 exact {
  defers:=h1.defers,size:=h1.size,aU:=h1.aU,oE:=h1.oE,fE:=h1.fE,sX:=h1.sX,ez:=h1.ez
  aC:=λ i=>(h1.aC i).mono (λ j _=>⟨Jw _,rfl⟩) (λ _ h=>h) (λ _ _=>rfl)
  aK:=λ i o ho=>by
   rw[a9m] at ho
   obtain⟨o',cQ,rfl⟩:=ho
   have hk:OR c G lk w i o'.dm:=by
    have:=h1.aK i o' cQ
    cases o' with
    | box cs =>
     obtain⟨b,l,t,k1,k2,k3⟩:=this
     exact⟨b,l,t,k1,k2,aT.eO _ (k3.imp λ u y _ hy=>hy.dm)⟩
    | row e τ xs=>exact this
    | aE τ xs=>exact this
    | map m=>exact this
   exact hk.mono rfl (λ _ _=>rfl) (λ j _=>⟨Jw _,rfl⟩) (λ _ h=>h) (λ _ _=>rfl)
  place:=λ i o b ho hb=>by
   rw[a9m] at ho
   obtain⟨o',cQ,rfl⟩:=ho
   exact h1.place i o' b cQ hb
  apart:=λ i j o o' b ho cQ hb cD=>by
   rw[a9m] at ho cQ
   obtain⟨p,hp,rfl⟩:=ho
   obtain⟨q,hq,rfl⟩:=cQ
   exact h1.apart i j p q b hp hq hb cD
  bc:=h1.bc.sub (λ i τ xs k=>Av k) (λ i o k=>by
   rw[a9m] at k
   obtain⟨p,hp,_⟩:=k
   exact⟨p,hp⟩)
  root:=λ i v hr ht=>h1.root i v hr (by
   match hl:lk i,ht with
   | some (.aE ..),_=>rfl
   | some (.box _),ht=>simp[hl,aB.dm,dw] at ht
   | some (.row ..),ht=>simp[hl,aB.dm,dw] at ht
   | none,ht=>simp[hl,dw] at ht)
  lj:=h1.lj
  dQ:=λ i v hr ht=>h1.dQ i v hr (by
   match hl:lk i,ht with
   | some (.box _),_=>rfl
   | some (.aE ..),ht=>simp[hl,aB.dm,iy] at ht
   | some (.row ..),ht=>simp[hl,aB.dm,iy] at ht
   | none,ht=>simp[hl,iy] at ht)
  gu:=h1.gu }
end
section
variable {c:Ctx} {G:Gh} {s:ah} {a:Act} {w w':World}
theorem TP(s:ah):s.cM.sl=λ i=>(s.sl i).dm:=by
 funext i
 simp only[ah.sl,ah.cM,a8H,a9W]
 cases s.aC[i]?<;>rfl
theorem np(s:ah):s.cM.af=λ i=>(s.af i).map aB.dm:=by
 funext i;exact HC _ _ _
theorem Inv.cM(h:Inv c G s a w):Inv c G s.cM a w/\(∀ i,(s.cM.sl i).Nk=false)/\∀ id cs,s.cM.af id=some (.box cs)->AV.rH cs=false:=by
 refine⟨?_,λ i=>by rw[TP];exact Jf _,λ id cs bf=>?_⟩
 .unfold Inv
  rw[TP,np,show s.cM.aC.length=s.aC.length from by simp[ah.cM]]
  exact bz.cM h
 .rw[np] at bf
  simp only[a9m] at bf
  obtain⟨o,_,ho⟩:=bf
  cases o with
  | box dN=>cases ho;exact Qn dN
  | row e τ xs=>cases ho
  | aE τ xs=>cases ho
  | map m=>cases ho
theorem Inv.a4k(h:Inv c G s a w){A:List (Nat×TE)}(hA:∀ p∈A,a1G G s.af w' p.1 p.2)(Zb:∀ p∈A,∀ b∈p.2.2.1,(∃ q∈A,b∈G.φ q.1)\/xu c G s.af w' b)(Wc:∀ p∈A,∀ q∈A,∀ b∈p.2.2.1,b∈q.2.2.1->p.1=q.1)(dr:(A.map (·.1)).Nodup)
  {F:Nat->Prop} (hk:bN F w w') (hF:∀ b,F b->∃ p∈A,b∈G.φ p.1) {t:ah} (hts:t.aC=s.cM.aC) (Fa:∀ i,t.af i=Yp A s.cM.af i) {d:Option Nat} {v:AV} {x:Value} (hv:∀ G' lk,VR c G' lk w' v x) :
  ∃ G',Inv c G' (t.put d v) (a.put d x) w':=by
 obtain⟨h1,h2,h3⟩:=h.cM
 have hA':∀ p∈A,a1G G s.cM.af w' p.1 p.2:=λ p hp=>by
  obtain⟨τ,xs,dh,v,l,l',k1,k2⟩:=(hA p hp).ex
  exact⟨τ,xs,dh,v,l,l',by rw[np];simp[k1,aB.dm],k2⟩
 have a3L:∀ p∈A,∀ b∈p.2.2.1,(∃ q∈A,b∈G.φ q.1)\/xu c G s.cM.af w' b:=λ p hp b hb=>(Zb p hp b hb).imp id λ ⟨q1,q2,q3,q4,q5⟩ =>
  ⟨q1,q2,q3,λ i o hi=>by
   rw[np] at hi
   simp only[a9m] at hi
   obtain⟨o',cQ,_⟩:=hi
   exact q4 i o' cQ,λ j τ xs hj=>q5 j τ xs (by rw[np] at hj;exact Av hj)⟩
 have T:=IW.ofList (c:=c) (w:=w) hA' a3L Wc dr (λ b hb hn=>hk.block b hb λ hf=>by
  obtain⟨p,hp,hbp⟩:=hF b hf
  exact hn p hp hbp) hk.os hk.tape hk.output hk.size
 have hI:=bz.fK h1 T h2 h3
 refine⟨_,Inv.put (G:=⟨G.S,Hh A G,AI A G⟩) ?_ (hv _ _)⟩
 unfold Inv
 rw[show t.sl=s.cM.sl from by funext i;simp only[ah.sl,hts],show t.af=Yp A s.cM.af from funext Fa,hts]
 exact hI
theorem Yq(id:Nat)(e:TE)(lk:Nat->Option aB)(i:Nat):Yp [(id,e)] lk i=if i=id then some e.2.2 else lk i:=by
 unfold Yp
 simp only[af]
 by_cases hi:i=id
 .subst hi;simp
 .have:Nat.beq id i=false:=by
   cases hb:Nat.beq id i with
   | false=>rfl
   | true=>exact absurd (a8s hb).symm hi
  simp[this,hi]
theorem qA(s:ah)(id:Nat)(τ:Ty)(xs:List τ.den)(i:Nat):(s.mO id τ xs).af i=if i=id then some (.aE τ xs) else s.af i:=by
 show af ((id,_)::bW id s.aK) i=_
 rw[dP,eZ]
 by_cases hi:i=id
 .simp[hi]
 .simp[hi];rfl
theorem a4c{lk:Nat->Option aB}{k:Int}(h:O k):VR c G lk w (.aW ⟨.int .i64,k⟩) (.int .i64 k):=by
 refine⟨rfl,?_⟩
 simp only[IntKind.min,IntKind.max,IntKind.signed,IntKind.bits,b0r]
 obtain⟨q1,q2⟩:=h
 constructor<;>omega
theorem AA{f0 f1 f2 lE:List Nat}(h:(f0++f1++f2).Nodup)(h1:lE.Nodup)(hs:∀ b∈lE,b∈f1\/(b∉f0/\b∉f2)):(f0++lE++f2).Nodup:=by
 rw[a8S,a8S] at h
 obtain⟨⟨a1,a2,a3⟩,a4,a5⟩:=h
 refine eB (eB a1 h1 λ x hx Fc=>(hs x Fc).elim (λ q=>a3 x hx x q rfl) λ q=>q.1 hx) a4 λ x hx Fc=>?_
 rcases a8t.1 hx with hx|hx
 .exact a5 x (by simp[hx]) x Fc rfl
 .exact (hs x hx).elim (λ q=>a5 x (by simp[q]) x Fc rfl) λ q=>q.2 Fc
theorem Qj{w:World}{τ τm:Ty}{x:τ.den}{off:Nat}{u:TV}(hu:TV.part ⟨τ,x⟩ off τm=some u)(cw:τm.agg=false){ce:List Value}{fp:List Nat}(hO:Ow w (τ.aR x) ce fp) :
  ∃ v f0 f1 f2,fp=f0++f1++f2/\ce[off]?=some v/\Ow w u.aR [v] f1/\∀ (w':World) (u':TV) (y:τ.den) (v':Value) (lE:List Nat),qD τ x off u'=some y->(∀ b∈f0++f2,w'.heap[b]?=w.heap[b]?)->Ow w' u'.aR [v'] lE->Ow w' (τ.aR y) (ce.set off v') (f0++lE++f2):=by
 cases τ with
 | st s =>
  have vN:(s.cells x)[off]?=some u:=by
   unfold TV.part at hu
   split at hu
   .rename_i hb
    simp only[a8r] at hb
    have:=a9e hb.2
    have e:Ty.st s=τm:=this
    subst e
    cases cw
   .split at hu
    .rename_i z hz
     split at hu
     .simp only[a8o] at hu
      subst hu
      exact hz
     .cases hu
    .cases hu
  rw[show Ty.aR (.st s) x=s.aR x from rfl,aS.cF] at hO
  obtain⟨v,f0,f1,f2,h1,h2,h3,h4⟩:=di.split _ off u.aR hO (by rw[a9W,vN];rfl)
  refine⟨v,f0,f1,f2,h1,h2,h3,λ w' u' y v' lE hp hw AX=>?_⟩
  simp only[qD,vN] at hp
  split at hp
  .have hy:=aS.qC hp
   rw[show Ty.aR (.st s) y=s.aR y from rfl,aS.cF,hy,b0W]
   exact h4 w' u'.aR v' lE hw AX
  .cases hp
 | slice t =>
  have sI:off=0/\u=⟨.slice t,x⟩:=by
   unfold TV.part at hu
   split at hu
   .rename_i hb
    simp only[a8r] at hb
    simp only[a8o] at hu
    exact⟨a8s hb.1,hu.symm⟩
   .split at hu
    .rename_i z hz
     cases off with
     | zero=>simp[TV.cells] at hz;subst hz;split at hu<;>simp_all
     | succ k=>simp[TV.cells] at hz
    .cases hu
  obtain⟨rfl,rfl⟩:=sI
  have hl:=Ow.length _ hO
  match ce,hl with
  | [v],_ =>
   refine⟨v,[],fp,[],by simp,rfl,hO,λ w' u' y v' lE hp _ AX=>?_⟩
   simp only[qD] at hp
   have e:=TV.aY hp
   subst e
   rw[a8T,a9N]
   exact AX
 | mv t =>
  have sI:off=0/\u=⟨.mv t,x⟩:=by
   unfold TV.part at hu
   split at hu
   .rename_i hb
    simp only[a8r] at hb
    simp only[a8o] at hu
    exact⟨a8s hb.1,hu.symm⟩
   .split at hu
    .rename_i z hz
     cases off with
     | zero=>simp[TV.cells] at hz;subst hz;split at hu<;>simp_all
     | succ k=>simp[TV.cells] at hz
    .cases hu
  obtain⟨rfl,rfl⟩:=sI
  have hl:=Ow.length _ hO
  rw[Ty.cT] at hl
  match ce,hl with
  | [v],_ =>
   refine⟨v,[],fp,[],by simp,rfl,hO,λ w' u' y v' lE hp _ AX=>?_⟩
   simp only[qD] at hp
   have e:=TV.aY hp
   subst e
   rw[a8T,a9N]
   exact AX
 | ptr =>
  have sI:off=0/\u=⟨.ptr,x⟩:=by
   unfold TV.part at hu
   split at hu
   .rename_i hb
    simp only[a8r] at hb
    simp only[a8o] at hu
    exact⟨a8s hb.1,hu.symm⟩
   .split at hu
    .rename_i z hz
     cases off with
     | zero=>simp[TV.cells] at hz;subst hz;split at hu<;>simp_all
     | succ k=>simp[TV.cells] at hz
    .cases hu
  obtain⟨rfl,rfl⟩:=sI
  have hl:=Ow.length _ hO
  rw[Ty.cT] at hl
  match ce,hl with
  | [v],_ =>
   refine⟨v,[],fp,[],by simp,rfl,hO,λ w' u' y v' lE hp _ AX=>?_⟩
   simp only[qD] at hp
   have e:=TV.aY hp
   subst e
   rw[a8T,a9N]
   exact AX
 | int k =>
  have sI:off=0/\u=⟨.int k,x⟩:=by
   unfold TV.part at hu
   split at hu
   .rename_i hb
    simp only[a8r] at hb
    simp only[a8o] at hu
    exact⟨a8s hb.1,hu.symm⟩
   .split at hu
    .rename_i z hz
     cases off with
     | zero=>simp[TV.cells] at hz;subst hz;split at hu<;>simp_all
     | succ k=>simp[TV.cells] at hz
    .cases hu
  obtain⟨rfl,rfl⟩:=sI
  have hl:=Ow.length _ hO
  match ce,hl with
  | [v],_ =>
   refine⟨v,[],fp,[],by simp,rfl,hO,λ w' u' y v' lE hp _ AX=>?_⟩
   simp only[qD] at hp
   have e:=TV.aY hp
   subst e
   rw[a8T,a9N]
   exact AX
 | bool =>
  have sI:off=0/\u=⟨.bool,x⟩:=by
   unfold TV.part at hu
   split at hu
   .rename_i hb
    simp only[a8r] at hb
    simp only[a8o] at hu
    exact⟨a8s hb.1,hu.symm⟩
   .split at hu
    .rename_i z hz
     cases off with
     | zero=>simp[TV.cells] at hz;subst hz;split at hu<;>simp_all
     | succ k=>simp[TV.cells] at hz
    .cases hu
  obtain⟨rfl,rfl⟩:=sI
  have hl:=Ow.length _ hO
  match ce,hl with
  | [v],_ =>
   refine⟨v,[],fp,[],by simp,rfl,hO,λ w' u' y v' lE hp _ AX=>?_⟩
   simp only[qD] at hp
   have e:=TV.aY hp
   subst e
   rw[a8T,a9N]
   exact AX
 | str =>
  have sI:off=0/\u=⟨.str,x⟩:=by
   unfold TV.part at hu
   split at hu
   .rename_i hb
    simp only[a8r] at hb
    simp only[a8o] at hu
    exact⟨a8s hb.1,hu.symm⟩
   .split at hu
    .rename_i z hz
     cases off with
     | zero=>simp[TV.cells] at hz;subst hz;split at hu<;>simp_all
     | succ k=>simp[TV.cells] at hz
    .cases hu
  obtain⟨rfl,rfl⟩:=sI
  have hl:=Ow.length _ hO
  match ce,hl with
  | [v],_ =>
   refine⟨v,[],fp,[],by simp,rfl,hO,λ w' u' y v' lE hp _ AX=>?_⟩
   simp only[qD] at hp
   have e:=TV.aY hp
   subst e
   rw[a8T,a9N]
   exact AX
theorem Yk(l:List Value)(o n k:Nat)(v:Value)(hk:k<n)(hl:o+n<=l.length):l.take o++((l.drop o).take n).set k v++l.drop (o+n)=l.set (o+k) v:=by
 conv=>rhs;rw[<-a9K o l]
 rw[b2f _ _ (by simp;omega),a9r]
 congr 1
 have e:o+k - (List.take o l).length=k:=by rw[a8U];omega
 rw[e]
 conv=>rhs;rw[<-a9K n (l.drop o)]
 rw[List.set_append_left _ _ (by rw[a8U,a9w];omega),a9Y]
theorem ZN{w:World}{η:Value}{τ τm:Ty}{xs:List τ.den}{fp:List Nat}(hT:lA w η τ xs fp)(dr:fp.Nodup){a0:Option Addr}{n cap:Nat}{l:List Value}(iM:η = .tuple (.slice a0 n cap::l).toArray){i off:Nat}(hi:i<n){u:TV}
  (hu:TV.part ⟨τ,xs.getD i τ.zero⟩ off τm=some u) (cw:τm.agg=false) (sI:off<τ.size):n=xs.length /\
  ∃ v f1,l[i * τ.size+off]?=some v/\Ow w u.aR [v] f1/\f1.Nodup/\(∀ b∈f1,b∈fp)/\∀ (w':World) (u':TV) (y:τ.den) (v':Value) (lE:List Nat),qD τ (xs.getD i τ.zero) off u'=some y->(∀ b∈fp,b∉f1->(a0=some ⟨b,0,none⟩->∃ t,w'.heap[b]?=some (.cells (l.set (i * τ.size+off) v').toArray t (0,0)))/\(a0≠some ⟨b,0,none⟩->w'.heap[b]?=w.heap[b]?))->Ow w' u'.aR [v'] lE->lE.Nodup->(∀ b∈lE,b∈f1\/b∉fp) ->
   ∃ YW,lA w' (.tuple (.slice a0 n cap::l.set (i * τ.size+off) v').toArray) τ (xs.set i y) YW/\YW.Nodup/\∀ b∈YW,b∈fp\/b∈lE:=by
 obtain⟨v0,l0,a1,Xd,h1,h2,h3,h4,h5,h6⟩:=hT
 rw[iM] at h1
 simp only[a9U] at h1
 have h1:(Value.slice a0 n cap::l)=v0::l0:=congrArg Array.toList h1
 simp only[a8z] at h1
 obtain⟨hq,Gi⟩:=h1
 subst Gi
 rw[h2] at hq
 simp only[b0g] at hq
 obtain⟨rfl,rfl,rfl⟩:=hq
 rcases h6 with ⟨rfl,_,_⟩|⟨b,f,t,rfl,rfl,k1,k0,k2⟩
 .simp at hi
 .have cO:∀ d∈xs.map τ.aR,d.size=τ.size:=by
   intro d hd
   obtain⟨z,_,rfl⟩:=a8A.1 hd
   exact Ty.cT τ z
  obtain⟨g0,g1,g2,rfl,hlen,m1,m2⟩:=bX.split (xs.map τ.aR) i (τ.aR (xs.getD i τ.zero)) k2 cO (by simp[List.getD,hi])
  obtain⟨v,p0,p1,p2,rfl,q1,q2,q3⟩:=Qj hu cw m1
  have hvl:l[i * τ.size+off]?=some v:=by
   rw[a9R,a8O sI,b0l] at q1
   exact q1
  rw[a9j] at dr
  obtain⟨hb,dr⟩:=dr
  have Vf:(p0++p1++p2).Nodup:=by
   rw[a8S,a8S] at dr
   exact dr.1.2.1
  have XM:p1.Nodup:=by
   rw[a8S,a8S] at Vf
   exact Vf.1.2.1
  refine⟨rfl,v,p1,hvl,q2,XM,λ b hb=>by simp[hb],λ w' u' y v' lE hp hw AX AZ hs'=>?_⟩
  have dis:∀ c∈g0++(p0++p1++p2)++g2,c∉p1->w'.heap[c]?=w.heap[c]?:=λ c hc hn=>(hw c (b0d _ hc) hn).2 λ e=>by
   simp only[a8o,b0x,a8F] at e
   subst e
   exact hb hc
  have gG:∀ c,c∈p1->c∈p0++p1++p2:=λ c hc=>by simp[hc]
  rw[a8S,a8S] at dr
  obtain⟨⟨n1,n2,n3⟩,n4,n5⟩:=dr
  have h0:∀ c∈g0++g2,c∉p1:=λ c hc QE=>by
   rcases a8t.1 hc with hc|hc
   .exact n3 c hc c (gG c QE) rfl
   .exact n5 c (a8t.2 (.inr (gG c QE))) c hc rfl
  have h00:∀ c∈p0++p2,c∉p1:=λ c hc QE=>by
   rw[a8S,a8S] at Vf
   rcases a8t.1 hc with hc|hc
   .exact Vf.1.2.2 c hc c QE rfl
   .exact Vf.2.2 c (by simp[QE]) c hc rfl
  have hy:=q3 w' u' y v' lE hp (λ c hc=>dis c (by simp at hc ⊢;rcases hc with hc|hc<;>simp[hc]) (h00 c hc)) AX
  have fD:=m2 w' (τ.aR y) _ (p0++lE++p2) (λ c hc=>dis c (by simp at hc ⊢;rcases hc with hc|hc<;>simp[hc]) (h0 c hc)) (by simp only[b0b,a8U,a9w];omega) hy
  rw[Yk l _ _ _ v' sI hlen,<-b0W] at fD
  obtain⟨t',Un⟩:=(hw b (by simp) λ hc=>hb (by simp[hc])).1 rfl
  refine⟨b::(g0++(p0++lE++p2)++g2),⟨_,_,_,cap,rfl,by simp,by simpa using h3,h4,by simpa using h5, .inr ⟨b,_,t',rfl,rfl,Un,by rw[List.length_set];exact k0,fD⟩⟩,?_,?_⟩
  .have Wj:∀ c∈lE,c∈p1\/(c∉p0/\c∉p2):=λ c hc=>(hs' c hc).imp id λ q=>⟨λ q'=>q (by simp[q']),λ q'=>q (by simp[q'])⟩
   have Jc:∀ c∈p0++lE++p2,c∈p0++p1++p2\/(c∉g0/\c∉g2):=λ c hc=>by
    simp only[a8t] at hc
    rcases hc with (hc|hc)|hc
    .exact .inl (by simp[hc])
    .rcases hs' c hc with q|q
     .exact .inl (by simp[q])
     .exact .inr ⟨λ q'=>q (by simp[q']),λ q'=>q (by simp[q'])⟩
    .exact .inl (by simp[hc])
   rw[a9j]
   refine⟨λ hc=>?_,AA (f1:=p0++p1++p2) (eB (eB n1 n2 λ x hx Fc=>n3 x hx x Fc rfl) n4 λ x hx Fc=>n5 x hx x Fc rfl) (AA Vf AZ Wj) Jc⟩
   simp only[a8t] at hc
   rcases hc with (hc|(hc|hc)|hc)|hc
   .exact hb (by simp[hc])
   .exact hb (by simp[hc])
   .rcases hs' b hc with q|q
    .exact hb (by simp[q])
    .exact q (by simp)
   .exact hb (by simp[hc])
   .exact hb (by simp[hc])
  .intro c hc
   simp only[a8I,a8t] at hc
   rcases hc with hc|(hc|(hc|hc)|hc)|hc
   .exact .inl (by simp[hc])
   .exact .inl (by simp[hc])
   .exact .inl (by simp[hc])
   .exact .inr hc
   .exact .inl (by simp[hc])
   .exact .inl (by simp[hc])
end
end Go.Proofs.YtmjfpcajohhbeaaGreatDoor

namespace Go.Proofs.YtmjfpcajohhbeaaGreatDoor
section
variable {c:Ctx} {G:Gh} {s:ah} {a:Act} {w w':World}
theorem GY(h:Inv c G s a w){o:Oper}{v:AV}{x:Value}{Q:Exit->Act->World->Prop}(hr:(execOp a.eval o).run c.P w = .ok (.value x) w)(hv:VR c G s.af w v x) :
  o.wp c.P a w (λ a' w'=>∃ G',Inv c G' (s.put o.dst v) a' w') Q:=by
 unfold Oper.wp
 rw[hr]
 exact⟨G,Inv.put h hv⟩
theorem CS{η:Value}{τ:Ty}{xs:List τ.den}{fp:List Nat}(hT:lA w η τ xs fp){a0:Option Addr}{n cap:Nat}{l:List Value}(iM:η = .tuple (.slice a0 n cap::l).toArray){i:Nat}(hi:i<n) :
  n=xs.length/\∃ b f t,a0=some ⟨b,0,none⟩/\fp=b::f/\w.heap[b]?=some (.cells l.toArray t (0,0))/\bX w (xs.map τ.aR) l f:=by
 obtain⟨v0,l0,a1,Xd,h1,h2,h3,h4,h5,h6⟩:=hT
 rw[iM] at h1
 simp only[a9U] at h1
 have h1:(Value.slice a0 n cap::l)=v0::l0:=congrArg Array.toList h1
 simp only[a8z] at h1
 obtain⟨hq,Gi⟩:=h1
 subst Gi
 rw[h2] at hq
 simp only[b0g] at hq
 obtain⟨rfl,rfl,rfl⟩:=hq
 rcases h6 with ⟨rfl,_,_⟩|⟨b,f,t,q1,q2,q3,q4⟩
 .simp at hi
 .exact⟨rfl,b,f,t,q1,q2,q3,q4.2⟩
theorem NP{t:Ty}{x:Value}(h:C1 c G s.af w (zeroCell t) x)(ht:t.agg=false):Ow w (t.aR t.zero) [x] []:=by
 cases t with
 | slice t' =>
  have h:x = .slice none 0 0:=h
  subst h
  exact⟨none,0,rfl,a9i _,by simp[maxLen],a9J _, .inl ⟨rfl,⟨rfl,rfl⟩,rfl⟩⟩
 | st s=>cases ht
 | mv t=>exact Ow.fU (S:=G.S) _ rfl h.2
 | ptr=>exact Ow.fU (S:=G.S) _ rfl h.2
 | int k=>exact Ow.fU (S:=G.S) _ rfl h.2
 | bool=>exact Ow.fU (S:=G.S) _ rfl h.2
 | str=>exact Ow.fU (S:=G.S) _ rfl h.2
theorem a0L(s:aS):∀ t∈s.xH,t.agg=false:=λ t ht=>by
 rw[<-aS.xF s s.zero] at ht
 obtain⟨u,hu,rfl⟩:=a8A.1 ht
 exact RA s _ u hu
theorem a3v{c:Ctx}{G:Gh}{s:ah}{τ:Ty}{z:Value}(h:AK τ z=true):Ow w (τ.aR τ.zero) z.cells.toList []:=by
 have h1:=n8 (c:=c) (G:=G) (lk:=s.af) (w:=w) h
 cases τ with
 | st st =>
  simp only[zeroCells] at h1
  show Ow w (st.aR st.zero) _ []
  rw[aS.cF]
  have hz:(st.cells st.zero).map TV.aR=st.xH.map λ t=>t.aR t.zero:=by cases st<;>rfl
  rw[hz]
  have h2:=aT.of_map _ h1
  have:∀ (ts:List Ty) (vs:List Value),aT (λ t x=>Ow w (t.aR t.zero) [x] []) ts vs->di w (ts.map λ t=>t.aR t.zero) vs []:=by
   intro ts
   induction ts with
   | nil=>intro vs h;cases vs<;>first|exact⟨rfl,rfl⟩|cases h
   | cons t ts ih =>
    intro vs h
    cases vs with
    | nil=>cases h
    | cons v vs=>exact⟨v,vs,[],[],rfl,rfl,h.1,ih vs h.2⟩
  exact this _ _ (h2.imp λ t x ht hx=>NP hx (a0L st t ht))
 | _ =>
  simp only[zeroCells] at h1
  match hc:z.cells.toList,h1 with
  | [x],h1=>exact NP h1.1 rfl
theorem bX.W6:∀ (ds:List D) {es:List D} {l m:List Value} {n:Nat},bX w ds l []->(∀ d∈ds,d.size=n)->l.length=ds.length * n->bX w es m []->bX w (ds++es) (l++m) []
 | [],es,l,m,n,_,_,hl,h=>by
  have:l=[]:=List.eq_nil_of_length_eq_zero (by simpa using hl)
  subst this;simpa using h
 | d::ds,es,l,m,n,h,hn,hl,h'=>by
  obtain⟨cc,r,f1,f2,rfl,hf,h3,h4⟩:=h
  have hf:=(List.append_eq_nil_iff.1 hf.symm)
  obtain⟨rfl,rfl⟩:=hf
  have hc:cc.length=n:=by rw[Ow.length _ h3];exact hn d (by simp)
  refine⟨cc,r++m,[],[],by simp,rfl,h3,bX.W6 ds h4 (λ d hd=>hn d (by simp[hd])) ?_ h'⟩
  simp only[a8K,a8C,a9C,Nat.one_mul] at hl
  omega
theorem bX.more:∀ (ds:List D) {l:List Value} {fp:List Nat} (m:List Value),bX w ds l fp->bX w ds (l++m) fp
 | [],_,_,_,h=>h
 | d::ds,_,_,m,h=>by
  obtain⟨cc,r,f1,f2,rfl,hf,h3,h4⟩:=h
  exact⟨cc,r++m,f1,f2,by simp,hf,h3,bX.more ds m h4⟩
theorem Jn{d:D}{z:Array Value}(h:Ow w d z.toList []):∀ k:Nat,bX w (List.replicate k d) (madeCells z (k * z.size)).toList []
 | 0=>rfl
 | k+1=>by
  have hz:d.size=z.size:=by have:=Ow.length _ h;simpa using this.symm
  rw[EO,b1d]
  refine bX.W6 (n:=z.size) _ (Jn h k) (λ e he=>by rw[List.eq_of_mem_replicate he];exact hz) (by simp[madeCells]) ⟨z.toList,[],[],[],by simp,rfl,h,rfl⟩
theorem Od(h:Inv c G s a w)(id:Nat):Inv c G (s.gone id) a w:=by
 obtain⟨h1,_,_⟩:=h.clear id
 have cG:(s.gone id).af=λ i=>if i=id then none else (s.cm id).af i:=by
  funext i
  exact eZ id _ i
 unfold Inv
 show bz c G (s.cm id).sl (s.cm id).aC.length (s.gone id).af a w
 rw[cG,show (s.cm id).aC.length=s.aC.length from by simp[ah.cm]]
 exact h1
theorem DA(s:ah)(id i:Nat):(s.gone id).af i=if i=id then none else (s.af i).map (aB.kill id):=by
 show af (bW id (s.cm id).aK) i=_
 rw[eZ,<-congrFun (eE s id) i]
 rfl
theorem xK:∀ (ids:List Nat) {s:ah},Inv c G s a w->Inv c G (ids.foldl ah.gone s) a w
 | [],_,h=>h
 | id::r,_,h=>xK r (Od h id)
theorem Zr(id:Nat){τ:Ty}{xs:List τ.den}{o:Option aB}(h:o=some (.aE τ xs)):o.map (aB.kill id)=some (.aE τ xs):=by subst h;rfl
theorem P6:∀ (ids:List Nat) {s:ah} {id:Nat} {τ:Ty} {xs:List τ.den},s.af id=some (.aE τ xs)->id∉ids->(ids.foldl ah.gone s).af id=some (.aE τ xs)
 | [],_,_,_,_,h,_=>h
 | i::r,s,id,τ,xs,h,hn=>by
  refine P6 r ?_ (λ hh=>hn (by simp[hh]))
  rw[DA,a8y (λ e=>hn (by simp[e]))]
  exact Zr i h
theorem Kb:∀ (ids:List Nat) {s:ah} {i:Nat} {o:aB},(ids.foldl ah.gone s).af i=some o->i∉ids/\∃ o',s.af i=some o'/\∀ τ xs,o = .aE τ xs->o' = .aE τ xs
 | [],s,i,o,h=>⟨by simp,o,h,λ _ _ e=>e⟩
 | id::r,s,i,o,h=>by
  obtain⟨h1,o',h2,h3⟩:=Kb r h
  rw[DA] at h2
  split at h2
  .cases h2
  .rename_i fG
   simp only[a9m] at h2
   obtain⟨p,hp,hk⟩:=h2
   refine⟨by simp[fG,h1],p,hp,λ τ xs e=>?_⟩
   have:=h3 τ xs e
   subst this
   have hm:(some p).map (aB.kill id)=some (.aE τ xs):=by rw[<-hk];rfl
   have:=mJ hm
   simpa using this
theorem G7{o:Oper}{T:TypeId}{ad x:Operand}(bE:o.op = .store T ad x){w':World}{s':ah}{G':Gh}(hr:(Instr.storeAt T (a.eval ad) (a.eval x)).run c.P w = .ok () w')(hI:Inv c G' (s'.put none .any) a w'){Q:Exit->Act->World->Prop} :
  o.wp c.P a w (λ a' w'=>∃ G',Inv c G' (s'.put o.dst .any) a' w') Q:=by
 unfold Oper.wp
 have:(execOp a.eval o).run c.P w = .ok .skip w':=by simp only[execOp,bE,a8Y,hr,a8Q,a8Z]
 rw[this]
 exact⟨G',Inv.put (s:=s') hI trivial⟩
theorem TT(hE:bP c.P c.E)(h:Inv c G s a w){T:TypeId}{τ bo:Ty}{bt e:Nat}(hT:af c.E.ty T=some (τ,bt,e)){id i off:Nat}{xs:List bo.den}(bf:s.af id=some (.aE bo xs)){p x:Value}(hp:VR c G s.af w (.fF id i off bo.size) p)(sI:off+τ.size<=bo.size)
  (vS:x.cells.toList.length=τ.size) (Gg:∀ u∈x.cells.toList,u.oneCell'=true) {y:bo.den}
  (hO:∀ (b:Nat) (f:List Nat) (l:List Value) (w':World),G.φ id=b::f->l.length>=i * bo.size+bo.size->bX w (xs.map bo.aR) l f->(∀ k,k≠b->w'.heap[k]?=w.heap[k]?) ->
   ∃ f',bX w' ((xs.set i y).map bo.aR) (l.take (i * bo.size+off)++x.cells.toList++l.drop (i * bo.size+off+τ.size)) f'/\f'.Nodup/\b∉f'/\∀ k∈f',k∈f\/xu c G s.af w k) :
  ∃ w' G',(Instr.storeAt T p x).run c.P w = .ok () w'/\Inv c G' (s.cM.mO id bo (xs.set i y)) a w':=by
 obtain⟨_,b,n,cap,l,iM,hi,rfl⟩:=hp
 obtain⟨rfl,b',f,t,e1,u6,hh,fD⟩:=CS (h.bc.tr id bo xs bf) iM hi
 simp only[a8o,b0x,a8F] at e1
 subst e1
 have cO:∀ d∈xs.map bo.aR,d.size=bo.size:=by
  intro d hd
  obtain⟨z,_,rfl⟩:=a8A.1 hd
  exact Ty.cT bo z
 obtain⟨_,_,_,_,hlen,_,_⟩:=bX.split (xs.map bo.aR) i (bo.aR (xs.getD i bo.zero)) fD cO (by simp[List.getD,hi])
 have cZ:=xg (c:=c) (l:=l) hE hT (o:=i * bo.size+off) (x:=x) hh vS Gg (by omega)
 have Ce:∀ k,k≠b->(w.setRow b (l.take (i * bo.size+off)++x.cells.toList++l.drop (i * bo.size+off+τ.size)).toArray).heap[k]?=w.heap[k]?:=λ k hk=>pN w hh k hk
 obtain⟨f',k1,k2,k3,k4⟩:=hO b f l _ u6 hlen fD Ce
 have tE:=b2b w b l.toArray (l.take (i * bo.size+off)++x.cells.toList++l.drop (i * bo.size+off+τ.size)).toArray t (0,0) hh
 have hT':lA (w.setRow b (l.take (i * bo.size+off)++x.cells.toList++l.drop (i * bo.size+off+τ.size)).toArray) (.tuple (.slice (some ⟨b,0,none⟩) xs.length cap::(l.take (i * bo.size+off)++x.cells.toList++l.drop (i * bo.size+off+τ.size))).toArray) bo (xs.set i y) (b::f'):=by
  obtain⟨v0,l0,a1,Xd,h1,h2,h3,h4,h5,h6⟩:=h.bc.tr id bo xs bf
  rw[iM] at h1
  simp only[a9U] at h1
  have h1:(Value.slice (some ⟨b,0,none⟩) xs.length cap::l)=v0::l0:=congrArg Array.toList h1
  simp only[a8z] at h1
  obtain⟨hq,Gi⟩:=h1
  rw[h2] at hq
  simp only[b0g] at hq
  obtain⟨rfl,_,rfl⟩:=hq
  have I9:l.length=cap * bo.size:=by
   rw[Gi]
   rcases h6 with ⟨_,h',_⟩|⟨_,_,_,_,_,_,k0,_⟩
   .cases h'.1
   .exact k0
  exact⟨_,_,_,cap,rfl,by simp,by simpa using h3,h4,by simpa using h5, .inr ⟨b,f',t,rfl,rfl,tE,by rw[<-I9];simp only[List.length_append,List.length_take,List.length_drop,vS];omega,k1⟩⟩
 have hpl:=h.bc.pl id bo xs
 have:=h.a4k (w':=w.setRow b (l.take (i * bo.size+off)++x.cells.toList++l.drop (i * bo.size+off+τ.size)).toArray) (t:=s.cM.mO id bo (xs.set i y)) (F:=λ k=>k=b)
  (A:=[(id,(.tuple (.slice (some ⟨b,0,none⟩) xs.length cap::(l.take (i * bo.size+off)++x.cells.toList++l.drop (i * bo.size+off+τ.size))).toArray,b::f', .aE bo (xs.set i y)))]) ?_ ?_ ?_ (by simp)
  ⟨rfl,rfl,rfl,by simp[World.setRow],λ k hk fG=>Ce k fG⟩ (λ k hk=>⟨_,a9q.2 rfl,by rw[u6,hk];simp⟩) rfl (λ j=>?_) (d:=none) (v := .any) (x:=undef) (λ _ _=>trivial)
 .obtain⟨G',hG⟩:=this
  exact⟨_,G',cZ,hG⟩
 .intro p hp
  simp only[a9q] at hp
  subst hp
  exact⟨bo,xs,_,_,l,_,bf,rfl,iM,rfl,hT',a9j.2 ⟨k3,k2⟩⟩
 .intro p hp k hk
  simp only[a9q] at hp
  subst hp
  rcases a8I.1 hk with rfl|hk
  .exact .inl ⟨_,a9q.2 rfl,by rw[u6];simp⟩
  .rcases k4 k hk with hk|hk
   .exact .inl ⟨_,a9q.2 rfl,by rw[u6];simp[hk]⟩
   .exact .inr (hk.grow (by simp[World.setRow]))
 .intro p hp q hq k _ _
  simp only[a9q] at hp hq
  rw[hp,hq]
 .rw[Yq,qA]
theorem ET.cells{w:World}{τ:Ty}{y:τ.den}{x:Value}{fp:List Nat}(h:ET w ⟨τ,y⟩ x fp):Ow w (τ.aR y) x.cells.toList fp:=by
 cases τ with
 | st s =>
  obtain⟨cs,rfl,h⟩:=h
  exact h
 | slice t =>
  obtain⟨a',cap,h1,_⟩:=id h
  simp only[a8z,a8F] at h1
  subst h1
  exact h
 | mv t =>
  have h1:=Ow.length _ (show Ow w (mvD t.size t.aR y) [x] fp from h)
  cases hy:(show Option (List t.den) from y) with
  | none =>
   have e:y=(none:Option (List t.den)):=hy
   subst e
   obtain⟨⟨a',n,m,h1⟩,_⟩:=id h
   simp only[a8z,a8F] at h1
   subst h1
   exact h
  | some l =>
   have e:y=(some l:Option (List t.den)):=hy
   subst e
   obtain⟨a',cap,h1,_⟩:=id h
   simp only[a8z,a8F] at h1
   subst h1
   exact h
 | ptr=>obtain⟨⟨p,h1⟩,_⟩:=id h;simp only[a8z,a8F] at h1;subst h1;exact h
 | int k=>obtain⟨⟨h1,_⟩,_⟩:=id h;simp only[a8z,a8F] at h1;subst h1;exact h
 | bool=>have h1:=h.1;simp only[a8z,a8F] at h1;subst h1;exact h
 | str=>obtain⟨⟨z,h1,_⟩,_⟩:=id h;simp only[a8z,a8F] at h1;subst h1;exact h
theorem TM(l:List Value)(k:Nat)(v:Value)(h:k<l.length):l.take k++[v]++l.drop (k+1)=l.set k v:=by
 rw[List.set_eq_take_append_cons_drop,a8O h,a9r];rfl
theorem L9(h:Inv c G s a w){ids:List Nat}{b:Nat}(hb:xv G s.af ids b):xu c G (ids.foldl ah.gone s).af w b:=by
 obtain⟨id,hi,hq⟩:=hb
 have hp:(c.w0.heap.size<=b\/c.X b)/\¬ G.S b/\b<w.heap.size:=by
  rcases hq with ⟨τ,xs,q1,q2⟩|⟨e,τ,xs,q1,q2⟩
  .obtain⟨p1,p2,p3,_⟩:=h.bc.pl id τ xs b q1 q2;exact⟨p1,p2,p3⟩
  .obtain⟨p1,p2,p3⟩:=h.place id _ b q1 q2;exact⟨p1,p2,p3⟩
 refine⟨hp.1,hp.2.1,hp.2.2,λ i o cE xN=>?_,λ j τ xs hj rn=>?_⟩
 .obtain⟨h1,o',h2,_⟩:=Kb ids cE
  rcases hq with ⟨τ,xs,q1,q2⟩|⟨e,τ,xs,q1,q2⟩
  .exact (h.bc.pl id τ xs b q1 q2).2.2.2 i o' h2 xN
  .have:=h.apart i id o' _ b h2 q1 xN q2
   subst this;exact h1 hi
 .obtain⟨h1,o',h2,h3⟩:=Kb ids hj
  have:=h3 τ xs rfl
  subst this
  rcases hq with ⟨bo,dh,q1,q2⟩|⟨e,bo,dh,q1,q2⟩
  .have:=h.bc.ap j id _ _ _ _ b h2 q1 rn q2
   subst this;exact h1 hi
  .exact (h.bc.pl j τ xs b h2 rn).2.2.2 id _ q1 q2
theorem a3y{l:List Operand}{u v:AV}(h:Inv c G s a w)(hl:l.map s.eval=[u,v]):∃ x y,l.map a.eval=[x,y]/\VR c G s.af w u x/\VR c G s.af w v y:=by
 have:=aT.rj (bC h) l
 rw[hl] at this
 match hx:l.map a.eval,this with
 | [x,y],hh=>exact⟨x,y,rfl,hh.1,hh.2.1⟩
theorem ZB(hE:bP c.P c.E)(h:Inv c G s a w){o:Oper}{vc:Vc}{s':ah}(hq:WJ c.E s o=some (vc,s'))(fk:vc.ok){Q:Exit->Act->World->Prop} :
  o.wp c.P a w (λ a' w'=>∃ G',Inv c G' s' a' w') Q:=by
 unfold WJ at hq
 split at hq
 case h_1 T x ix bE =>
  split at hq
  case h_2=>cases hq
  case h_1 τ r hT =>
  split at hq
  case h_2=>cases hq
  case h_1 k i id hi hx =>
  split at hq
  case h_2=>cases hq
  case h_1 bo xs bf =>
  split at hq
  case h_2=>cases hq
  case h_1 l8 =>
  have cO:bo.size=τ.size:=by
   simp only[b0c] at l8
   rcases l8 with l8|l8
   .rw[a9e l8]
   .unfold Ty.a4T at l8
    split at l8
    .rename_i p q
     have e:=congrArg List.length (a9e l8)
     rw[a8R] at e
     have e1:=congrArg List.length (aS.xF p p.zero)
     have e2:=congrArg List.length (aS.xF q q.zero)
     rw[a8R,aS.kY] at e1 e2
     simp only[Ty.size];omega
    .cases l8
  simp only[a8o,a8u] at hq
  obtain⟨rfl,rfl⟩:=hq
  have vQ:=bC h ix
  rw[hi] at vQ
  obtain⟨vQ,_⟩:=vQ
  simp only[a8z,a8F] at vQ
  have hv:=bC h x
  rw[hx] at hv
  obtain⟨hit,l,iM,ad,m,cap,KK⟩:=hv
  obtain⟨h0,h1⟩:=fk
  have hTr:=h.bc.tr id bo xs bf
  rw[KK] at iM
  have hm:m=xs.length:=by
   obtain⟨v0,l0,a1,Xd,q1,q2,_⟩:=hTr
   rw[iM] at q1
   simp only[a9U] at q1
   have q1:(Value.slice ad m cap::l)=v0::l0:=congrArg Array.toList q1
   simp only[a8z] at q1
   rw[q2] at q1
   simp only[b0g] at q1
   exact q1.1.2.1
  subst hm
  obtain⟨_,b,f,t,e1,_⟩:=CS hTr iM (i:=i.toNat) (by omega)
  subst e1
  refine GY h (x := .pointer (some ⟨b,0+i.toNat * τ.size,none⟩)) ?_ ⟨hit,b,_,cap,l,iM,by omega,by simp⟩
  simp only[execOp,bE,KK,vQ,a8Y,tm hE hT h0 h1,a8Q,a8Z]
 case h_2 T x i bE =>
  split at hq
  case h_2=>cases hq
  case h_1 st r hT =>
  split at hq
  case h_2=>cases hq
  case h_1 id k off sz hx =>
  split at hq
  case h_2=>cases hq
  case h_1 bS =>
  simp only[a8o,a8u] at hq
  obtain⟨rfl,rfl⟩:=hq
  have bS:i<st.ic.length:=by simpa [Nat.blt_eq] using bS
  have hv:=bC h x
  rw[hx] at hv
  obtain⟨h1,b,m,cap,l,h2,h3,h4⟩:=hv
  refine GY h (x := .pointer (some ⟨b,k * sz+(off+st.gq i),none⟩)) ?_ ⟨h1,b,m,cap,l,h2,h3,rfl⟩
  simp only[execOp,bE,h4,a8Y,nx hE hT bS,a8Q,a8Z,b1j]
 case h_3 T ad bE =>
  split at hq
  case h_2=>cases hq
  case h_1 τ r hT =>
  split at hq
  case h_2=>cases hq
  case h_1 id i off sz hx =>
  split at hq
  case h_2=>cases hq
  case h_1 bo xs bf =>
  split at hq
  case h_2=>cases hq
  case h_1 u hu hb =>
  simp only[a8r,a8J] at hb
  obtain⟨KB,Oi,Wd⟩:=hb
  have KB:=a8s KB
  subst KB
  have Wd:off<bo.size:=by simpa [Nat.blt_eq] using Wd
  have hv:=bC h ad
  rw[hx] at hv
  obtain⟨h1,b,m,cap,l,h2,h3,h4⟩:=hv
  obtain⟨rfl,v,f1,p1,p2,_⟩:=ZN (h.bc.tr id bo xs bf) (h.bc.nd id bo xs bf) h2 h3 hu Oi Wd
  obtain⟨_,b',f,t,e1,_,hh,_⟩:=CS (h.bc.tr id bo xs bf) h2 h3
  simp only[a8o,b0x,a8F] at e1
  subst e1
  have vN:ct w b (i * bo.size+off) [v]:=λ j z hj=>by
   cases j with
   | zero =>
    simp at hj
    subst hj
    simp[World.cell?,hh,p1]
   | succ j=>simp at hj
  have XN:τ.size=1:=Ty.mP Oi
  have cZ:(execOp a.eval o).run c.P w = .ok (.value (IA τ [v])) w:=by
   simp only[execOp,bE,h4,a8Y,pt hE hT vN (by rw[XN];rfl),a8Q,a8Z]
  have hmk:IA τ [v]=v:=by cases τ<;>first|rfl|cases Oi
  rw[hmk] at cZ
  have hut:u.τ=τ:=by
   unfold TV.part at hu
   split at hu
   .rename_i kJ
    simp only[a8r] at kJ
    simp only[a8o] at hu
    rw[<-hu];exact a9e kJ.2
   .split at hu
    .split at hu
     .rename_i hd
      simp only[a8o] at hu
      rw[<-hu];exact a9e hd
     .cases hu
    .cases hu
  split at hq
  case h_1 Dt =>
   simp only[a8o,a8u] at hq
   obtain⟨rfl,rfl⟩:=hq
   refine GY h cZ ?_
   obtain⟨Yt,yu⟩:=u
   have hut:Yt=τ:=hut
   subst hut
   have hl:(Ty.aR Yt yu).light=true:=vA Dt yu
   have hr:Rd w G.S (Ty.aR Yt yu) [v]:=by
    cases Yt with
    | int k=>exact p2.1
    | bool=>exact p2.1
    | str=>exact p2.1
    | slice t=>cases Dt
    | mv t=>cases Dt
    | ptr=>exact p2.1
    | st s=>cases Dt
   cases Yt with
   | mv t=>cases Dt
   | st s=>cases Dt
   | slice t=>cases Dt
   | _=>exact hr
  case h_2 Dt =>
   simp only[a8o,a8u] at hq
   obtain⟨rfl,rfl⟩:=hq
   refine GY h cZ ⟨h1,_,_,cap,l,h2,h3,p1,?_⟩
   obtain⟨Yt,yu⟩:=u
   have hut:Yt=τ:=hut
   subst hut
   cases Yt with
   | slice t =>
    obtain⟨a',UP,q,_⟩:=p2
    simp only[a8z,a8F] at q
    exact⟨_,_,_,q⟩
   | st s=>cases Oi
   | mv t =>
    cases hy:(show Option (List t.den) from yu) with
    | none =>
     have e:yu=(none:Option (List t.den)):=hy
     subst e
     obtain⟨⟨a',n,m,q⟩,_⟩:=p2
     simp only[a8z,a8F] at q
     exact⟨_,_,_,q⟩
    | some l =>
     have e:yu=(some l:Option (List t.den)):=hy
     subst e
     obtain⟨a',UP,q,_⟩:=p2
     simp only[a8z,a8F] at q
     exact⟨_,_,_,q⟩
   | int k=>cases Dt
   | bool=>cases Dt
   | str=>cases Dt
   | ptr=>cases Dt
 case h_4 T ad x bE =>
  split at hq
  case h_2=>cases hq
  case h_1 τ r hT =>
  split at hq
  case h_2=>cases hq
  case h_1 id i off sz hx =>
  split at hq
  case h_2=>cases hq
  case h_1 bo xs bf =>
  split at hq
  case h_2=>cases hq
  case h_1 hb =>
  simp only[a8r] at hb
  obtain⟨KB,Wd⟩:=hb
  have KB:=a8s KB
  subst KB
  have Wd:off<bo.size:=by simpa [Nat.blt_eq] using Wd
  have hp:=bC h ad
  rw[hx] at hp
  have Zk:=bC h x
  have gG:i<xs.length:=by
   obtain⟨_,b,m,cap,l,h2,h3,_⟩:=hp
   obtain⟨h4,_⟩:=CS (h.bc.tr id bo xs bf) h2 h3
   omega
  split at hq
  case h_1 Dt =>
   split at hq
   case h_2=>cases hq
   case h_1 u j hu =>
   split at hq
   case h_2=>cases hq
   case h_1 u0 y hu0 hy =>
   simp only[a8o,a8u] at hq
   obtain⟨rfl,rfl⟩:=hq
   have Ee:τ.agg=false:=by cases τ<;>first|rfl|cases Dt
   have XN:τ.size=1:=Ty.mP Ee
   have vN:(a.eval x).cells.toList=[a.eval x]/\(a.eval x).oneCell'=true/\Ow w (τ.aR u) [a.eval x] []:=by
    have hc:C1 c G s.af w (s.eval x) (a.eval x)/\(s.eval x).cell=true:=by
     have hcc:(s.eval x).cell=true:=by
      revert hu
      cases dc:s.eval x with
      | aW v =>
       intro hu
       simp only[fZ] at hu
       split at hu
       .rename_i Zl
        have e:=TV.aY Zl
        subst e
        cases τ<;>first|rfl|cases Ee
       .cases hu
      | nil=>intro hu;cases τ<;>first|(cases Dt;done)|(cases hu;done)
      | aE id=>intro hu;simp[fZ] at hu
      | row id=>intro hu;simp[fZ] at hu
      | _=>intro hu;cases hu
     exact⟨Zk.VE hcc,hcc⟩
    obtain⟨q1,q2⟩:=hc.1.leaf hc.2
    refine⟨by rw[q2],q1,?_⟩
    revert hu
    have Oj:=hc.1
    revert Oj
    cases s.eval x with
    | aW v =>
     intro Oj hu
     simp only[fZ] at hu
     split at hu
     .rename_i a7h Zl
      have e:=TV.aY Zl
      subst e
      simp only[a8o,a8u] at hu
      rw[<-hu.1]
      exact Ow.fU (S:=G.S) _ (vA a7h _) Oj.2
     .cases hu
    | nil=>intro _ hu;cases τ<;>first|(cases Dt;done)|(cases hu;done)
    | aE id=>intro _ hu;simp[fZ] at hu
    | row id=>intro _ hu;simp[fZ] at hu
    | _=>intro _ hu;cases hu
   obtain⟨c1,c2,c3⟩:=vN
   obtain⟨w',G',k1,k2⟩:=TT hE h hT bf hp (y:=y) (x:=a.eval x) (by omega) (by rw[c1,XN];rfl) (by rw[c1];simpa using c2) (λ b f l w' Uq hlen fD Ce=>by
    have cO:∀ d∈xs.map bo.aR,d.size=bo.size:=by
     intro d hd
     obtain⟨z,_,rfl⟩:=a8A.1 hd
     exact Ty.cT bo z
    have dr:=h.bc.nd id bo xs bf
    rw[Uq,a9j] at dr
    obtain⟨Uj,SE⟩:=dr
    have iw:∀ k∈f,w'.heap[k]?=w.heap[k]?:=λ k hk=>Ce k λ e=>Uj (e ▸ hk)
    obtain⟨g0,g1,g2,rfl,_,m1,m2⟩:=bX.split (xs.map bo.aR) i (bo.aR (xs.getD i bo.zero)) fD cO (by simp[List.getD,gG])
    obtain⟨v,p0,p1,p2,rfl,q1,q2,q3⟩:=Qj hu0 Ee m1
    have hy2:=q3 w' ⟨τ,u⟩ y (a.eval x) [] hy (λ k hk=>iw k (by simp at hk ⊢;rcases hk with hk|hk<;>simp[hk])) (c3.aU _ (by simp))
    have hr:=m2 w' (bo.aR y) _ (p0++[]++p2) (λ k hk=>iw k (by simp at hk ⊢;rcases hk with hk|hk<;>simp[hk])) (by simp only[b0b,a8U,a9w];omega) hy2
    rw[Yk l _ _ _ _ Wd hlen,<-b0W] at hr
    refine⟨_,by rw[c1,XN,TM _ _ _ (by omega)];exact hr,?_,λ hk=>Uj ?_,λ k hk => .inl ?_⟩
    .refine AA (f1:=p0++p1++p2) SE (AA (f1:=p1) ?_ a9F (by simp)) (λ k hk => .inl (by simp at hk ⊢;rcases hk with hk|hk<;>simp[hk]))
     rw[a8S,a8S] at SE
     exact SE.1.2.1
    .simp at hk ⊢;rcases hk with hk|hk|hk|hk<;>simp[hk]
    .simp at hk ⊢;rcases hk with hk|hk|hk|hk<;>simp[hk])
   exact G7 bE k1 k2
  case h_2 Dt =>
   split at hq
   case h_2=>cases hq
   case h_1 y ids sI ht =>
   split at hq
   case h_2=>cases hq
   case h_1 y' dr Zl =>
   simp only[a8o,a8u] at hq
   obtain⟨rfl,rfl⟩:=hq
   have sI:=a8s sI
   subst sI
   have e:=TV.aY Zl
   have et:τ=bo:=congrArg TV.τ e
   subst et
   cases e
   have dr:=dA dr
   rw[a9j] at dr
   obtain⟨a4K,a3N⟩:=dr
   obtain⟨fq,o1,o2,o3⟩:=vD h ht Zk a3N
   have oq:=ET.cells o1
   have hlen:=Ow.length _ oq
   rw[Ty.cT] at hlen
   have h1:=xK ids h
   have Vd:=P6 ids bf a4K
   obtain⟨_,b0,m0,a6t,l0,a7l,hi0,hp0⟩:=hp
   obtain⟨w',G',k1,k2⟩:=TT hE h1 hT Vd (i:=i) (off:=0) (p:=a.eval ad) ⟨by rw[Vd];rfl,b0,m0,a6t,l0,a7l,hi0,hp0⟩ (y:=y) (x:=a.eval x) (by omega) hlen
    (Rd.uw (S:=λ b=>b∈fq) (x:=y) (Ow.rd _ oq λ b hb=>hb)) (λ b f l w' Uq a7R fD Ce=>by
    have cO:∀ d∈xs.map τ.aR,d.size=τ.size:=by
     intro d hd
     obtain⟨z,_,rfl⟩:=a8A.1 hd
     exact Ty.cT τ z
    have a4L:=h.bc.nd id τ xs bf
    rw[Uq,a9j] at a4L
    obtain⟨Uj,SE⟩:=a4L
    have iw:∀ k∈f,w'.heap[k]?=w.heap[k]?:=λ k hk=>Ce k λ e=>Uj (e ▸ hk)
    have zT:∀ k∈fq,k∉b::f:=λ k hk oS=>by
     refine h.la (o3 k hk) (j:=[id]) ⟨id,by simp, .inl ⟨τ,xs,bf,by rw[Uq];exact oS⟩⟩ λ x1 Wt y1 Up e=>?_
     simp only[a9q] at Up
     exact a4K (by rw[<-Up,<-e];exact Wt)
    obtain⟨g0,g1,g2,rfl,_,m1,m2⟩:=bX.split (xs.map τ.aR) i (τ.aR (xs.getD i τ.zero)) fD cO (by simp[List.getD,gG])
    have hr:=m2 w' (τ.aR y) (a.eval x).cells.toList fq (λ k hk=>iw k (by simp at hk ⊢;rcases hk with hk|hk<;>simp[hk])) hlen (oq.aU _ λ k hk=>Ce k λ e=>zT k hk (by simp[e]))
    rw[<-b0W] at hr
    refine⟨g0++fq++g2,by rw[b0k];exact hr,?_,λ hk=>?_,λ k hk=>?_⟩
    .rw[a8S,a8S] at SE
     obtain⟨⟨n1,n2,n3⟩,n4,n5⟩:=SE
     refine eB (eB n1 o2 λ k hk oS=>zT k oS (by simp[hk])) n4 λ k hk oS=>?_
     rcases a8t.1 hk with hk|hk
     .exact n5 k (a8t.2 (.inl hk)) k oS rfl
     .exact zT k hk (by simp[oS])
    .rcases a8t.1 hk with hk|hk
     .rcases a8t.1 hk with hk|hk
      .exact Uj (by simp[hk])
      .exact zT b hk (by simp)
     .exact Uj (by simp[hk])
    .rcases a8t.1 hk with hk|hk
     .rcases a8t.1 hk with hk|hk
      .exact .inl (by simp[hk])
      .exact .inr (L9 h (o3 k hk))
     .exact .inl (by simp[hk]))
   exact G7 bE k1 k2
 case h_5 T l cc bE =>
  split at hq
  case h_2=>cases hq
  case h_1 d τ b e hd hT =>
  split at hq
  case h_2=>cases hq
  case h_1 va =>
  have a6R:d<50:=by
   simp only[a8r] at va
   simpa [Nat.blt_eq] using va.2
  split at hq
  case h_2=>cases hq
  case h_1 n m hn hm =>
  simp only[a8o,a8u] at hq
  obtain⟨rfl,rfl⟩:=hq
  have hl:=bC h l
  have hc:=bC h cc
  rw[hn] at hl
  rw[hm] at hc
  obtain⟨hl,_⟩:=hl
  obtain⟨hc,_⟩:=hc
  simp only[a8z,a8F] at hl hc
  obtain⟨v1,v2,v3,v4⟩:=Qe fk
  obtain⟨h1,_,i,z,h3,h4,h5,h6,h7⟩:=hE.slice hT
  have hzo:=a3v (c:=c) (G:=G) (s:=s) (w:=w.alloc (.cells (madeCells z.cells (m.toNat * i.size)) e)) h7
  have hzl:=Ow.length _ hzo
  rw[Ty.cT,a9v] at hzl
  have hr:=run_make (P:=c.P) w T e i z h1 h3 h6 .i64 .i64 n m v1 v2 (by rw[h5];omega) (by omega)
  have hI:=bz.alloc (Od h d) (.cells (madeCells z.cells (m.toNat * i.size)) e)
  have tN:(s.gone d).af d=none:=by rw[DA,a8O rfl]
  obtain⟨r1,r2⟩:=hI.Tk tN
  have fD:bX (w.alloc (.cells (madeCells z.cells (m.toNat * i.size)) e)) ((List.replicate n.toNat τ.zero).map τ.aR) (madeCells z.cells (m.toNat * i.size)).toList []:=by
   rw[b2v]
   have hle:n.toNat * z.cells.size<=m.toNat * i.size:=by rw[h4,hzl];exact b0t _ (by omega)
   have:=bX.more _ ((madeCells z.cells (m.toNat * i.size)).toList.drop (n.toNat * z.cells.size)) (Jn hzo n.toNat)
   rwa [<-EP _ _ _ hle,a9K] at this
  have hT':lA (w.alloc (.cells (madeCells z.cells (m.toNat * i.size)) e)) (.tuple (.slice (some ⟨w.heap.size,0,none⟩) n.toNat m.toNat::(madeCells z.cells (m.toNat * i.size)).toList).toArray) τ (List.replicate n.toNat τ.zero) [w.heap.size] :=
   ⟨_,_,some ⟨w.heap.size,0,none⟩,m.toNat,rfl,by simp,by simp;omega,by simp only[maxLen];omega,by simp;omega, .inr ⟨w.heap.size,[],e,rfl,rfl,by simpa using heap_alloc_new w (.cells (madeCells z.cells (m.toNat * i.size)) e),by simp[madeCells,h4],fD⟩⟩
  have hN:=hI.Tg d τ (List.replicate n.toNat τ.zero) _ [w.heap.size] tN r1 r2 (by
   cases hr:c.R d with
   | none=>rfl
   | some v=>exact absurd (h.lj d v hr).1 (Nat.not_le.2 a6R)) hT' (by simp) (λ k hk=>by
   simp only[a9q] at hk
   subst hk
   have hg:=Od h d
   refine⟨.inl h.aU.size,λ hs=>b0K _ (h.ez _ hs),by simp,λ i o cE xN=>?_,λ j n9 pW hj rn=>?_⟩
   .exact b0K _ (hg.place i o _ cE xN).2.2
   .exact b0K _ (hg.bc.pl j n9 pW _ hj rn).2.2.1)
  unfold Oper.wp
  have cZ:(execOp a.eval o).run c.P w = .ok (.value (.slice (some ⟨w.heap.size,0,none⟩) n.toNat m.toNat)) (w.alloc (.cells (madeCells z.cells (m.toNat * i.size)) e)):=by
   simp only[execOp,bE,hl,hc,a8Y,hr,a8Q,a8Z]
  rw[cZ]
  have key:=bz.put (d:=some d) (v := .aE d) (x := .slice (some ⟨w.heap.size,0,none⟩) n.toNat m.toNat) hN ⟨by simp[dw],_,by simp;rfl,_,_,_,rfl⟩
  have cG:ah.af { aC:=(s.gone d).aC.set d (.aE d),aK:=(d, .aE τ (List.replicate n.toNat τ.zero))::(s.gone d).aK }=λ i=>if i=d then some (.aE τ (List.replicate n.toNat τ.zero)) else (s.gone d).af i:=by
   funext i
   exact dP _ _ _ _
  have conv:∀ G',bz c G' (mZ (s.gone d).aC.length (s.gone d).sl (some d) (.aE d)) (s.gone d).aC.length (λ i=>if i=d then some (.aE τ (List.replicate n.toNat τ.zero)) else (s.gone d).af i) (a.put (some d) (.slice (some ⟨w.heap.size,0,none⟩) n.toNat m.toNat)) (w.alloc (.cells (madeCells z.cells (m.toNat * i.size)) e))->Inv c G' { aC:=(s.gone d).aC.set d (.aE d),aK:=(d, .aE τ (List.replicate n.toNat τ.zero))::(s.gone d).aK } (a.put o.dst (.slice (some ⟨w.heap.size,0,none⟩) n.toNat m.toNat)) (w.alloc (.cells (madeCells z.cells (m.toNat * i.size)) e)):=by
   intro G' hh
   unfold Inv
   rw[cG,hd,show ah.sl { aC:=(s.gone d).aC.set d (.aE d),aK:=(d, .aE τ (List.replicate n.toNat τ.zero))::(s.gone d).aK }=mZ (s.gone d).aC.length (s.gone d).sl (some d) (.aE d) from tn _ d _ _,
    show ({ aC:=(s.gone d).aC.set d (.aE d),aK:=(d, .aE τ (List.replicate n.toNat τ.zero))::(s.gone d).aK }:ah).aC.length=(s.gone d).aC.length from by simp]
   exact hh
  exact⟨_,conv _ key⟩
 case h_6 cl bE =>
  split at hq
  case h_1 jQ =>
   split at hq
   case h_2=>cases hq
   case h_1 T id Wb A0 =>
   split at hq
   case h_2=>cases hq
   case h_1 t r _ τ xs hT bf =>
   simp only[a8o,a8u] at hq
   obtain⟨rfl,rfl⟩:=hq
   have fB:=aT.rj (bC h) cl.args.toList
   rw[A0] at fB
   match ot:cl.args.toList.map a.eval,fB with
   | [x],fB =>
    obtain⟨_,l,iM,ad,m,cap,KK⟩:=fB.1
    have hm:m=xs.length/\xs.length<=140737488355328:=by
     obtain⟨v0,l0,a1,Xd,q1,q2,_,_,q5,_⟩:=h.bc.tr id τ xs bf
     rw[iM,KK] at q1
     simp only[a9U] at q1
     have q1:(Value.slice ad m cap::l)=v0::l0:=congrArg Array.toList q1
     simp only[a8z] at q1
     rw[q2] at q1
     simp only[b0g] at q1
     exact⟨q1.1.2.1,q5⟩
    obtain⟨rfl,hmx⟩:=hm
    have Mp:cl.argTypes = #[T]:=by rw[<-a9A (xs:=cl.argTypes),Wb]
    have Gk:cl.args.map a.eval = #[x]:=by rw[<-a9A (xs:=cl.args.map a.eval),b0q,ot]
    have SC:(execOp a.eval o)=(do let d <-resolve a.eval cl o.type;invoke d.target d.args):=by simp[execOp,bE]
    have P8:(execOp a.eval o).run c.P w=((Builtin.len_ #[T] o.type #[x]).run c.P w).andThen λ v w => .ok (.value v) w:=by
     rw[SC]
     simp[resolve,jQ,invoke,builtin,Mp,Gk]
    obtain⟨k1,_,_⟩:=hE.slice hT
    have XC:∃ q,c.P.elem T=q/\c.P.underlying T=some (.slice q):=⟨_,by simp[Program.elem,k1],k1⟩
    obtain⟨q,XC,k1⟩:=XC
    refine GY h (x := .int .i64 xs.length) ?_ (a4c ⟨by omega,by omega⟩)
    rw[P8,KK,run_len_slice w T o.type ad xs.length cap (by rw[XC];exact k1)]
    rfl
  case h_2 f jQ =>
   split at hq
   case h_2=>cases hq
   case h_1 d hd =>
   split at hq
   case h_2=>cases hq
   split at hq
   case h_1 m hm =>
    cases hq
   case h_2 hm =>
    split at hq
    case h_2=>cases hq
    case h_1 Z9 has =>
    split at hq
    case h_2=>cases hq
    case h_1 pre res hc =>
    split at hq
    case h_2=>cases hq
    case h_1 hb =>
    simp only[a8o,a8u] at hq
    obtain⟨rfl,rfl⟩:=hq
    simp only[a8r,a9a] at hb
    exact Tv hE h has (aT.rj (bC h) cl.args.toList) hc fk hd (λ p hp=>by simpa using hb.1 p hp) (dA hb.2) (by omega) (λ vO=>mN bE jQ rfl vO)
  case h_3=>cases hq
 case h_7=>cases hq
end
end Go.Proofs.YtmjfpcajohhbeaaGreatDoor

namespace Go.Proofs.YtmjfpcajohhbeaaGreatDoor
section
variable {w:World}
theorem bX.join{n:Nat}:∀ (ds:List D) {l:List Value} {fp:List Nat},bX w ds l fp->(∀ d∈ds,d.size=n) ->
  ds.length * n<=l.length/\∀ (es:List D) (m:List Value) (f2:List Nat),bX w es m f2->bX w (ds++es) (l.take (ds.length * n)++m) (fp++f2)
 | [],l,fp,h,_=>by
  have h:fp=[]:=h
  subst h
  exact⟨by simp,λ es m f2 k=>by simpa using k⟩
 | d::ds,l,fp,h,hn=>by
  obtain⟨c,r,f1,f2,rfl,rfl,h3,h4⟩:=h
  have hc:c.length=n:=by rw[Ow.length d h3];exact hn d (by simp)
  obtain⟨k1,k2⟩:=bX.join ds h4 λ d hd=>hn d (by simp[hd])
  have e:(d::ds).length * n=c.length+ds.length * n:=by rw[a8C,a9C,hc];omega
  refine⟨by rw[e,a8K];omega,λ es m f3 k=>?_⟩
  refine⟨c,r.take (ds.length * n)++m,f1,f2++f3,?_,by simp,h3,k2 es m f3 k⟩
  rw[e,Bl,a9r]
theorem bX.rdL{n:Nat}:∀ (ds:List D) {l:List Value} {fp:List Nat},bX w ds l fp->(∀ d∈ds,d.size=n)->fw w (λ _=>True) ds (l.take (ds.length * n))
 | [],l,fp,h,_=>by simp[fw]
 | d::ds,l,fp,h,hn=>by
  obtain⟨c,r,f1,f2,rfl,rfl,h3,h4⟩:=h
  have hc:c.length=n:=by rw[Ow.length d h3];exact hn d (by simp)
  have e:(d::ds).length * n=c.length+ds.length * n:=by rw[a8C,a9C,hc];omega
  exact⟨c,r.take (ds.length * n),by rw[e,Bl],Ow.rd d h3 λ _ _=>trivial,bX.rdL ds h4 λ d hd=>hn d (by simp[hd])⟩
theorem KP{τ:Ty}(xs:List τ.den):∀ d∈xs.map τ.aR,d.size=τ.size:=by
 intro d hd
 obtain⟨z,_,rfl⟩:=a8A.1 hd
 exact Ty.cT τ z
theorem P1{g k:Nat}{l:List Value}{t:TypeId}(h:w.heap[g]?=some (.cells l.toArray t (0,0))):∀ j v,(l.take k)[j]?=some v->w.cell? ((⟨g,0,none⟩:Addr).add j)=some v:=by
 intro j v hj
 rw[b0p]
 have:=FP (w:=w) (b:=g) (p:=[]) (c:=l.take k) (r:=l.drop k) (t:=t) (by simpa using h) j v hj
 simpa using this
theorem Nh{P:Program}(t ty e:TypeId)(i:TypeInfo)(ht:P.underlying t=some (.slice e))(hi:P.info? e=some i)
  (g TI a3g:Nat) (cur:Array Value) (t2:TypeId) (hg:w.heap[g]?=some (.cells cur t2 (0,0)))
  (a:Addr) (m c:Nat) (news:List Value) (hl:news.length=m * i.size) (SD:∀ j u,news[j]?=some u->w.cell? (a.add j)=some u) (h1:∀ u∈news,u.oneCell'=true)
  (Ds:TI+m<=a3g) (Cc:TI * i.size+news.length<=cur.size) :
  (Builtin.append_ #[t,t] ty #[.slice (some ⟨g,0,none⟩) TI a3g, .slice (some a) m c]).run P w =
   .ok (.slice (some ⟨g,0,none⟩) (TI+m) a3g) (w.setRow g (cur.toList.take (TI * i.size)++news++cur.toList.drop (TI * i.size+news.length)).toArray):=by
 have hf:=run_firstCells_some (P:=P) w i.size m a m c news hl SD
 have cw:=run_storeCells_at P g (TI * i.size) t2 news 0 cur w hg (by simpa using Cc) h1
 simp only[b0k] at cw
 simp[Builtin.append_,a9s ht,sizeOf,typeInfo,hi,Builtin.lenOf,Ds,hf,b0p,cw]
theorem U8{τ:Ty}{zs:List τ.den}{q:List Value}{fp:List Nat}{z:Array Value}{cap:Nat}{e:TypeId}(hq:bX w (zs.map τ.aR) q fp)(hql:q.length=zs.length * τ.size)(Zm:z.size=τ.size)
  (hc:zs.length<=cap) (hm:cap<=maxLen) (h47:zs.length<=140737488355328) (bS:∀ b∈fp,b<w.heap.size) :
  lA (w.drew.alloc (.cells (q.toArray++Builtin.zeroCells z (cap - zs.length)) e)) (.tuple (.slice (some ⟨w.heap.size,0,none⟩) zs.length cap::(q.toArray++Builtin.zeroCells z (cap - zs.length)).toList).toArray) τ zs (w.heap.size::fp):=by
 refine⟨_,_,some ⟨w.heap.size,0,none⟩,cap,rfl,rfl,hc,hm,h47, .inr ⟨w.heap.size,fp,e,rfl,rfl,?_,?_,?_⟩⟩
 .rw[a9A]
  exact b0U w.drew _
 .simp only[b2r,a8K,hql,a9v,size_zeroCells,Zm]
  rw[<-a9C]
  congr 1
  omega
 .rw[b2r]
  have hk:∀ b∈fp,(w.drew.alloc (.cells (q.toArray++Builtin.zeroCells z (cap - zs.length)) e)).heap[b]?=w.heap[b]?:=λ b hb=>b2g w.drew _ b (bS b hb)
  have:=bX.aU _ hq hk
  have more:∀ (ds:List D) {l:List Value} {f:List Nat} (m:List Value),bX (w.drew.alloc (.cells (q.toArray++Builtin.zeroCells z (cap - zs.length)) e)) ds l f->bX (w.drew.alloc (.cells (q.toArray++Builtin.zeroCells z (cap - zs.length)) e)) ds (l++m) f:=by
   intro ds
   induction ds with
   | nil=>intro l f m h;exact h
   | cons d ds ih =>
    intro l f m h
    obtain⟨cc,r,f1,f2,rfl,hf,h3,h4⟩:=h
    exact⟨cc,r++m,f1,f2,by simp,hf,h3,ih m h4⟩
  exact more _ _ this
end
section
variable {c:Ctx} {G:Gh} {sl:Nat->AV} {n:Nat} {lk:Nat->Option aB} {a:Act} {w w':World}
theorem VQ(hE:bP c.P c.E){T:TypeId}{τ:Ty}{b e:Nat}(hT:af c.E.ty T=some (.slice τ,b,e)){xs ys:List τ.den}{x y:Value}{fx fy:List Nat}
  (hx:Ow w (.slice τ.size (xs.map τ.aR)) [x] fx) (hy:Ow w (.slice τ.size (ys.map τ.aR)) [y] fy) (hlx:∀ k∈fx,k<w.heap.size) (hly:∀ k∈fy,k<w.heap.size) (SF:fx.Nodup) (hny:fy.Nodup) (hd:∀ k∈fx,k∉fy)
  (Ds:br (xs.length+ys.length) b) (ty:TypeId) :
  ∃ v' w' fp l,(Builtin.append_ #[T,T] ty #[x,y]).run c.P w = .ok v' w'/\lA w' (.tuple (v'::l).toArray) τ (xs++ys) fp/\(∃ a n m,v' = .slice a n m)/\fp.Nodup/\(∀ k∈fp,k∈fx\/k∈fy\/(w.heap.size<=k/\k<w'.heap.size))/\bN (λ k=>k∈fx) w w':=by
 obtain⟨k1,⟨b',e',k2⟩,i,zv,k3,k4,k5,k6,k7⟩:=hE.slice hT
 have Zm:zv.cells.size=τ.size:=by
  have:=Rd.length _ (NR (w:=w) (S:=λ _=>True) k7)
  rwa [Ty.cT,a9v] at this
 have My:=τ.size_pos
 have QJ:(xs.length+ys.length) * b<=140737488355328/\xs.length+ys.length<=140737488355328:=by
  unfold br at Ds
  rw[Nat.mul_add,b2x] at Ds
  omega
 have Mx:xs.length+ys.length<=maxLen:=by simp only[maxLen];omega
 obtain⟨lx,hxT,_⟩:=lA.a2X hx
 have hx0:=hx
 obtain⟨ax,IZ,x1,x2,x3,x4,x5⟩:=hx
 obtain⟨ay,Xe,y1,y2,y3,y4,y5⟩:=hy
 simp only[a8z,a8F,a8R] at x1 x2 x4 y1 y2 y4
 subst x1 y1
 have same:(Builtin.append_ #[T,T] ty #[.slice ax xs.length IZ, .slice ay ys.length Xe]).run c.P w = .ok (.slice ax xs.length IZ) w->ys=[]->∃ v' w' fp l,(Builtin.append_ #[T,T] ty #[.slice ax xs.length IZ, .slice ay ys.length Xe]).run c.P w = .ok v' w'/\lA w' (.tuple (v'::l).toArray) τ (xs++ys) fp/\(∃ a n m,v' = .slice a n m)/\fp.Nodup/\(∀ k∈fp,k∈fx\/k∈fy\/(w.heap.size<=k/\k<w'.heap.size))/\bN (λ k=>k∈fx) w w':=by
  intro hr he
  subst he
  exact⟨_,w,fx,lx,hr,by simpa using hxT,⟨_,_,_,rfl⟩,SF,λ k hk => .inl hk,bN.refl _ _⟩
 rcases y5 with ⟨q1,⟨q2,q3⟩,q4⟩|⟨gy,f2,l2,t2,q1,q2,q3,q4,q5⟩
 .have Oo:ys=[]:=by simpa using q1
  subst Oo
  refine same ?_ rfl
  subst q2
  simp[Builtin.append_,a9s k1,sizeOf,typeInfo,k3,Builtin.lenOf,Builtin.firstCells,x2,storeCells]
  cases ax<;>rfl
 .subst q1 q2
  have hsy:=KP ys
  obtain⟨j1,_⟩:=bX.join _ q5 hsy
  rw[a8R] at j1
  have Dr:(l2.take (ys.length * τ.size)).length=ys.length * τ.size:=by rw[a8U];omega
  have Gg:∀ u∈l2.take (ys.length * τ.size),u.oneCell'=true:=by
   have:=bX.rdL _ q5 hsy
   rw[a8R] at this
   exact fw.uw this
  have SD:=P1 (w:=w) (k:=ys.length * τ.size) q3
  have a2E:bX w (ys.map τ.aR) (l2.take (ys.length * τ.size)) f2:=by
   have:=(bX.join _ q5 hsy).2 [] [] [] rfl
   simpa using this
  rcases x5 with ⟨p1,⟨p2,p3⟩,p4⟩|⟨gx,f1,l1,t1,p1,p2,p3,p4,p5⟩
  .have ot:xs=[]:=by simpa using p1
   subst ot p2 p3 p4
   by_cases hm:ys=[]
   .refine same ?_ hm
    subst hm
    simp[Builtin.append_,a9s k1,sizeOf,typeInfo,k3,Builtin.lenOf,Builtin.firstCells,loadCells,loadCellsFrom]
   .have hm0:0<ys.length:=List.length_pos_iff.2 hm
    have hr:=run_append_nil (P:=c.P) w T ty e i zv k1 k3 k6 ⟨gy,0,none⟩ ys.length Xe (l2.take (ys.length * τ.size)) (by rw[Dr,k4]) SD hm0 (by omega) (by rw[k5];have:=QJ.1;simp only[a8N,a9Z] at this;omega)
    have hg:=U8 (w:=w) (e:=e) (zs:=ys) (cap:=grownCap w ys.length 0 e) a2E Dr Zm (grownCap_ge w ys.length 0 e) (grownCap_le_maxLen w ys.length 0 e (by simpa using Mx)) (by omega) (λ k hk=>hly k (by simp[hk]))
    refine⟨.slice (some ⟨w.heap.size,0,none⟩) ys.length (grownCap w ys.length 0 e),w.drew.alloc (.cells ((l2.take (ys.length * τ.size)).toArray++Builtin.zeroCells zv.cells (grownCap w ys.length 0 e - ys.length)) e),w.heap.size::f2,_,hr,hg,⟨_,_,_,rfl⟩,?_,?_,⟨rfl,rfl,rfl,by simp,λ k hk _=>b2g w.drew _ k hk⟩⟩
    .rw[a9j] at hny ⊢
     exact⟨λ hh=>b0K _ (hly _ (by simp[hh])),hny.2⟩
    .intro k hk
     rcases a8I.1 hk with rfl|hk
     .exact .inr (.inr ⟨a9i _,by simp⟩)
     .exact .inr (.inl (by simp[hk]))
  .subst p1 p2
   have hsx:=KP xs
   obtain⟨i1,i2⟩:=bX.join _ p5 hsx
   rw[a8R] at i1 i2
   have vS:(l1.take (xs.length * τ.size)).length=xs.length * τ.size:=by rw[a8U];omega
   have SE:(f1++f2).Nodup/\gx∉f1++f2:=by
    rw[a9j] at SF hny
    refine⟨a8S.2 ⟨SF.2,hny.2,λ k hk k' oS e=>?_⟩,λ hh=>?_⟩
    .subst e;exact hd k (by simp[hk]) (by simp[oS])
    .rcases a8t.1 hh with hh|hh
     .exact SF.1 hh
     .exact hd gx (by simp) (by simp[hh])
   have fD:=i2 (ys.map τ.aR) _ f2 a2E
   rw[<-b0n] at fD
   by_cases Cc:xs.length+ys.length<=IZ
   .have oq:xs.length * i.size+(l2.take (ys.length * τ.size)).length<=l1.toArray.size:=by
     rw[Dr,k4,<-a9C,List.size_toArray,p4]
     exact b0t _ Cc
    have hr:=Nh (P:=c.P) (w:=w) T ty e i k1 k3 gx xs.length IZ l1.toArray t1 p3 ⟨gy,0,none⟩ ys.length Xe (l2.take (ys.length * τ.size)) (by rw[Dr,k4]) SD Gg Cc oq
    have iw:∀ k,k≠gx->(w.setRow gx (l1.toArray.toList.take (xs.length * i.size)++l2.take (ys.length * τ.size)++l1.toArray.toList.drop (xs.length * i.size+(l2.take (ys.length * τ.size)).length)).toArray).heap[k]?=w.heap[k]?:=λ k hk=>pN w p3 k hk
    refine⟨_,_,gx::(f1++f2),(l1.take (xs.length * τ.size)++l2.take (ys.length * τ.size)++l1.drop (xs.length * τ.size+ys.length * τ.size)),hr,?_,⟨_,_,_,rfl⟩,a9j.2 ⟨SE.2,SE.1⟩,?_,⟨rfl,rfl,rfl,by simp[World.setRow],λ k hk fG=>iw k λ e=>fG (by simp[e])⟩⟩
    .refine⟨_,_,some ⟨gx,0,none⟩,IZ,rfl,by simp,by simpa using Cc,x3,by simp;omega, .inr ⟨gx,f1++f2,t1,rfl,rfl,?_,?_,?_⟩⟩
     .have:=b2b w gx l1.toArray (l1.toArray.toList.take (xs.length * i.size)++l2.take (ys.length * τ.size)++l1.toArray.toList.drop (xs.length * i.size+(l2.take (ys.length * τ.size)).length)).toArray t1 (0,0) p3
      rw[this,Dr,k4]
     .simp only[a8K,vS,Dr,a9w,p4]
      have:xs.length * τ.size+ys.length * τ.size<=IZ * τ.size:=by rw[<-a9C];exact b0t _ Cc
      omega
     .have hk:∀ k∈f1++f2,(w.setRow gx (l1.toArray.toList.take (xs.length * i.size)++l2.take (ys.length * τ.size)++l1.toArray.toList.drop (xs.length * i.size+(l2.take (ys.length * τ.size)).length)).toArray).heap[k]?=w.heap[k]?:=λ k hk=>iw k λ e=>SE.2 (e ▸ hk)
      have h2:=bX.aU _ fD hk
      have more:∀ (w2:World) (ds:List D) {l:List Value} {f:List Nat} (m:List Value),bX w2 ds l f->bX w2 ds (l++m) f:=by
       intro w2 ds
       induction ds with
       | nil=>intro l f m h;exact h
       | cons d ds ih =>
        intro l f m h
        obtain⟨cc,r,f1,f2,rfl,hf,h3,h4⟩:=h
        exact⟨cc,r++m,f1,f2,by simp,hf,h3,ih m h4⟩
      exact more _ _ _ h2
    .intro k hk
     rcases a8I.1 hk with rfl|hk
     .exact .inl (by simp)
     .rcases a8t.1 hk with hk|hk
      .exact .inl (by simp[hk])
      .exact .inr (.inl (by simp[hk]))
   .have hr:=run_append_grow (P:=c.P) w T ty e i zv k1 k3 k6 ⟨gx,0,none⟩ xs.length IZ (l1.take (xs.length * τ.size)) (by rw[vS,k4]) (P1 p3) ⟨gy,0,none⟩ ys.length Xe (l2.take (ys.length * τ.size)) (by rw[Dr,k4]) SD (by omega) (by omega) (by rw[k5];exact growslice_fits (by omega) QJ.1)
    have hql:(l1.take (xs.length * τ.size)++l2.take (ys.length * τ.size)).length=(xs++ys).length * τ.size:=by rw[a8K,vS,Dr,a8K,a9C]
    have hle:(xs++ys).length=xs.length+ys.length:=a8K
    have bS:∀ k∈f1++f2,k<w.heap.size:=λ k hk=>by
     rcases a8t.1 hk with hk|hk
     .exact hlx k (by simp[hk])
     .exact hly k (by simp[hk])
    have hg:=U8 (w:=w) (e:=e) (zs:=xs++ys) (cap:=grownCap w (xs.length+ys.length) IZ e) fD hql Zm (by rw[hle];exact grownCap_ge w _ _ e) (grownCap_le_maxLen w _ _ e Mx) (by omega) bS
    rw[hle] at hg
    refine⟨_,w.drew.alloc (.cells ((l1.take (xs.length * τ.size)).toArray++(l2.take (ys.length * τ.size)).toArray++Builtin.zeroCells zv.cells (grownCap w (xs.length+ys.length) IZ e - (xs.length+ys.length))) e),w.heap.size::(f1++f2),_,hr,by simpa [hle] using hg,⟨_,_,_,rfl⟩,?_,?_,⟨rfl,rfl,rfl,by simp,λ k hk _=>heap_alloc_old w.drew _ k hk⟩⟩
    .exact a9j.2 ⟨λ hh=>b0K _ (bS _ hh),SE.1⟩
    .intro k hk
     rcases a8I.1 hk with rfl|hk
     .exact .inr (.inr ⟨a9i _,by simp⟩)
     .rcases a8t.1 hk with hk|hk
      .exact .inl (by simp[hk])
      .exact .inr (.inl (by simp[hk]))
end
end Go.Proofs.YtmjfpcajohhbeaaGreatDoor

namespace Go.Proofs.YtmjfpcajohhbeaaGreatDoor
section
variable {c:Ctx} {G:Gh} {s:ah} {a:Act} {w w':World}
theorem Inv.built(h:Inv c G s a w){ids:List Nat}{d:Nat}{τ:Ty}{zs:List τ.den}{fp:List Nat}{v':Value}{l:List Value}(hk:bN (λ b=>xv G s.af ids b) w w')(hT:lA w' (.tuple (v'::l).toArray) τ zs fp)
  (hv:∃ a n m,v' = .slice a n m) (dr:fp.Nodup) (u6:∀ b∈fp,xv G s.af ids b\/(w.heap.size<=b/\b<w'.heap.size)) (tN:(ids.foldl ah.gone s).af (bY d)=none) :
  ∃ G',Inv c G' ((ids.foldl ah.gone s).uT d τ zs) (a.put (some d) v') w':=by
 have h1:Inv c G (ids.foldl ah.gone s) a w:=xK ids h
 have hF:∀ b,xv G s.af ids b->xu c G (ids.foldl ah.gone s).af w b:=λ b hb=>L9 h hb
 generalize XN:ids.foldl ah.gone s=s1 at *
 have l7:∀ b,b<w.heap.size->¬ xv G s.af ids b->w'.heap[b]?=w.heap[b]?:=λ b hb hn=>hk.block b hb hn
 have h2:bz c G s1.sl s1.aC.length s1.af a w':=by
  refine bz.world (S':=G.S) h1 ⟨hk.os,hk.tape,hk.output,hk.size,λ b hb hn=>l7 b hb λ hi=>hn (hF b hi).1⟩ (λ _ h=>h) (λ _ _=>b0w) h1.sX (λ b hb=>a8G (h1.ez b hb) hk.size) ?_ ?_ ?_
  .intro b hb
   rcases hb with hb|hb
   .exact l7 b (h1.ez b hb) λ hi=>(hF b hi).2.1 hb
   .exact l7 b (a8G hb.1 h1.aU.size) λ hi=>(hF b hi).1.elim (λ q=>by omega) hb.2.1
  .intro id o b ho hb
   exact l7 b (h1.place id o b ho hb).2.2 λ hi=>(hF b hi).2.2.2.1 id o ho hb
  .intro id bo dh b ht hb
   exact l7 b (h1.bc.pl id bo dh b ht hb).2.2.1 λ hi=>(hF b hi).2.2.2.2 id bo dh ht hb
 obtain⟨r1,r2⟩:=h2.Tk tN
 have hR:c.R (bY d)=none:=by
  cases hr:c.R (bY d) with
  | none=>rfl
  | some v=>have:=(h.lj _ v hr).2;unfold bY at this;omega
 have h3:=h2.Tg (bY d) τ zs _ fp tN r1 r2 hR hT dr (λ b hb=>by
  rcases u6 b hb with hi|⟨q1,q2⟩
  .obtain⟨f1,f2,f3,f4,f5⟩:=hF b hi
   exact⟨f1,f2,a8G f3 hk.size,f4,f5⟩
  .refine⟨.inl (b0N h1.aU.size q1),λ hs=>?_,q2,λ i o cE xN=>?_,λ j n9 pW hj rn=>?_⟩
   .have:=h1.ez b hs;omega
   .have:=(h1.place i o b cE xN).2.2;omega
   .have:=(h1.bc.pl j n9 pW b hj rn).2.2.1;omega)
 have key:=bz.put (d:=some d) (v := .aE (bY d)) (x:=v') h3 ⟨by simp[dw],l,by simp,hv⟩
 have cG:(s1.uT d τ zs).af=λ i=>if i=bY d then some (.aE τ zs) else s1.af i:=by
  funext i
  exact dP _ _ _ _
 have conv:∀ G',bz c G' (mZ s1.aC.length s1.sl (some d) (.aE (bY d))) s1.aC.length (λ i=>if i=bY d then some (.aE τ zs) else s1.af i) (a.put (some d) v') w'->Inv c G' (s1.uT d τ zs) (a.put (some d) v') w':=by
  intro G' hh
  unfold Inv
  rw[cG,show (s1.uT d τ zs).sl=mZ s1.aC.length s1.sl (some d) (.aE (bY d)) from tn _ d _ _,show (s1.uT d τ zs).aC.length=s1.aC.length from by simp[ah.uT]]
  exact hh
 exact⟨_,conv _ key⟩
theorem Inv.over{s1:ah}{X:Nat->Prop}(h1:Inv c G s1 a w)(hF:∀ b,X b->xu c G s1.af w b)(hk:bN X w w'):bz c G s1.sl s1.aC.length s1.af a w':=by
 have l7:∀ b,b<w.heap.size->¬ X b->w'.heap[b]?=w.heap[b]?:=λ b hb hn=>hk.block b hb hn
 refine bz.world (S':=G.S) h1 ⟨hk.os,hk.tape,hk.output,hk.size,λ b hb hn=>l7 b hb λ hi=>hn (hF b hi).1⟩ (λ _ h=>h) (λ _ _=>b0w) h1.sX (λ b hb=>a8G (h1.ez b hb) hk.size) ?_ ?_ ?_
 .intro b hb
  rcases hb with hb|hb
  .exact l7 b (h1.ez b hb) λ hi=>(hF b hi).2.1 hb
  .exact l7 b (a8G hb.1 h1.aU.size) λ hi=>(hF b hi).1.elim (λ q=>by omega) hb.2.1
 .intro id o b ho hb
  exact l7 b (h1.place id o b ho hb).2.2 λ hi=>(hF b hi).2.2.2.1 id o ho hb
 .intro id bo dh b ht hb
  exact l7 b (h1.bc.pl id bo dh b ht hb).2.2.1 λ hi=>(hF b hi).2.2.2.2 id bo dh ht hb
theorem xu.a3W{lk:Nat->Option aB}{b:Nat}(h:xu c G lk w b):¬ SX G lk b:=by
 rintro (hb|⟨id,e,τ,ys,bf,hb⟩|⟨id,τ,ys,bf,hb⟩)
 .exact h.2.1 hb
 .exact h.2.2.2.1 id _ bf hb
 .exact h.2.2.2.2 id τ ys bf hb
theorem yN(h:Inv c G s a w):∀ {fl:List Bool} {Ts:List TypeId} {vs:List AV} {xs:List Value} {own:List (Option TV)} {ids:List Nat},jx c.E s.af fl Ts vs=some (own,ids)->ids.Nodup->aT (VR c G s.af w) vs xs ->
  ∃ AS:List (List Nat),aT (λ (o:Option TV) (q:Value×List Nat)=>match o with
   | some v=>ET w v q.1 q.2
   | none=>q.2=[]) own (xs.zip AS)/\AS.length=xs.length/\AS.flatten.Nodup/\∀ b∈AS.flatten,xv G s.af ids b
 | [],[],[],[],own,ids,ht,_,_=>by
  simp only[jx,a8o,a8u] at ht
  obtain⟨rfl,rfl⟩:=ht
  exact⟨[],trivial,rfl,by simp,by simp⟩
 | true::fl,T::Ts,v::vs,x::xs,own,ids,ht,hn,hv=>by
  simp only[jx] at ht
  split at ht
  case h_2=>cases ht
  case h_1 τ q hT =>
  split at ht
  case h_2=>cases ht
  case h_1 y i hy =>
  split at ht
  case h_2=>cases ht
  case h_1 r j hr =>
  simp only[a8o,a8u] at ht
  obtain⟨rfl,rfl⟩:=ht
  rw[a8S] at hn
  obtain⟨n1,n2,n3⟩:=hn
  obtain⟨f1,o1,o2,o3⟩:=vD h hy hv.1 n1
  obtain⟨AS,p1,p2,p3,p4⟩:=yN h hr n2 hv.2
  refine⟨f1::AS,⟨o1,p1⟩,by simp[p2],?_,?_⟩
  .rw[List.flatten_cons]
   exact eB o2 p3 λ b hb cD=>h.la (o3 b hb) (p4 b cD) (λ x hx y hy=>n3 x hx y hy)
  .intro b hb
   rw[List.flatten_cons] at hb
   rcases a8t.1 hb with hb|hb
   .exact (o3 b hb).mono λ i hi=>by simp[hi]
   .exact (p4 b hb).mono λ i hi=>by simp[hi]
 | false::fl,T::Ts,v::vs,x::xs,own,ids,ht,hn,hv=>by
  simp only[jx] at ht
  split at ht
  case h_2=>cases ht
  case h_1 r j hr =>
  simp only[a8o,a8u] at ht
  obtain⟨rfl,rfl⟩:=ht
  obtain⟨AS,p1,p2,p3,p4⟩:=yN h hr hn hv.2
  exact⟨[]::AS,⟨rfl,p1⟩,by simp[p2],by simpa using p3,by simpa using p4⟩
 | [],_::_,_,_,_,_,ht,_,_=>by simp[jx] at ht
 | [],[],_::_,_,_,_,ht,_,_=>by simp[jx] at ht
 | [],[],[],_::_,_,_,_,_,hv=>hv.elim
 | true::_,[],_,_,_,_,ht,_,_=>by simp[jx] at ht
 | false::_,[],_,_,_,_,ht,_,_=>by simp[jx] at ht
 | true::_,_::_,[],_,_,_,ht,_,_=>by simp[jx] at ht
 | false::_,_::_,[],_,_,_,ht,_,_=>by simp[jx] at ht
 | _,_,_::_,[],_,_,_,_,hv=>hv.elim
theorem vU(hE:bP c.P c.E)(h:Inv c G s a w):∀ {own:List (Option TV)} {Ts:List TypeId} {vs:List AV} {xs:List Value} {AS:List (List Nat)} {Z9:List Arg},gK c.E s.af own Ts vs=some Z9 ->
  aT (λ (o:Option TV) (q:Value×List Nat)=>match o with
   | some v=>ET w v q.1 q.2
   | none=>q.2=[]) own (xs.zip AS)->AS.length=xs.length->aT (VR c G s.af w) vs xs->vG c.P w (SX G s.af) Z9 xs AS.flatten/\∀ a∈Z9,a.La=true
 | [],[],[],[],AS,Z9,hm,hO,hl,hv=>by
  simp only[gK,a8o] at hm
  subst hm
  have:AS=[]:=List.eq_nil_of_length_eq_zero (by simpa using hl)
  subst this
  exact⟨rfl,by simp⟩
 | some y::own,T::Ts,v::vs,x::xs,f::AS,Z9,hm,hO,hl,hv=>by
  simp only[gK] at hm
  split at hm
  case h_2=>cases hm
  case h_1 r hr =>
  simp only[a8o] at hm
  subst hm
  obtain⟨q1,q2⟩:=vU hE h hr hO.2 (by simpa using hl) hv.2
  refine⟨⟨f,AS.flatten,by simp,hO.1,q1⟩,λ a ha=>?_⟩
  rcases a8I.1 ha with rfl|ha
  .rfl
  .exact q2 a ha
 | none::own,T::Ts,v::vs,x::xs,f::AS,Z9,hm,hO,hl,hv=>by
  simp only[gK] at hm
  split at hm
  case h_2=>cases hm
  case h_1 y hy =>
  split at hm
  case h_2=>cases hm
  case h_1 r P9 hr =>
  simp only[a8o] at hm
  subst hm
  obtain⟨q1,q2⟩:=vU hE h hr hO.2 (by simpa using hl) hv.2
  have hf:f=[]:=hO.1
  subst hf
  have h1:=kE hE h (λ _ _ h=>h) (λ _ h => .inl h) (λ τ v x y h1 h2=>CZ h.bc h.aK (λ _ _ h=>h) h1 h2) (Ts:=[T]) (vs:=[v]) (Z9:=[y]) (xs:=[x]) (by simp only[px,hy]) ⟨hv.1,trivial⟩
  refine⟨⟨[],AS.flatten,by simp,?_,q1⟩,λ a ha=>?_⟩
  .have h1:=h1.1
   cases y with
   | own v=>exact h1.elim
   | box k=>exact h1.elim
   | _=>exact⟨rfl,h1⟩
  .rcases a8I.1 ha with rfl|ha
   .exact P9
   .exact q2 a ha
 | [],[],[],_::_,_,_,_,_,_,hv=>hv.elim
 | _,_,_::_,[],_,_,_,_,_,hv=>hv.elim
 | [],_::_,_,_,_,_,hm,_,_,_=>by simp[gK] at hm
 | [],[],_::_,_,_,_,hm,_,_,_=>by simp[gK] at hm
 | some _::_,[],_,_,_,_,hm,_,_,_=>by simp[gK] at hm
 | none::_,[],_,_,_,_,hm,_,_,_=>by simp[gK] at hm
 | some _::_,_::_,[],_,_,_,hm,_,_,_=>by simp[gK] at hm
 | none::_,_::_,[],_,_,_,hm,_,_,_=>by simp[gK] at hm
 | _::_,_::_,_::_,_::_,[],_,_,_,hl,_=>by simp at hl
theorem TW{lk:Nat->Option aB}{τ:Ty}:∀ {ps:List (Nat×AV)} {n:Nat} {xs:List τ.den} {ids:List Nat},He lk τ n ps=some (xs,ids)->xs.length=ps.length
 | [],n,xs,ids,h=>by
  simp only[He,a8o,a8u] at h
  obtain⟨rfl,_⟩:=h;rfl
 | (i,v)::ps,n,xs,ids,h=>by
  simp only[He] at h
  split at h
  .split at h
   .split at h
    .rename_i q
     simp only[a8o,a8u] at h
     obtain⟨rfl,_⟩:=h
     simp[TW q]
    .cases h
   .cases h
  .cases h
theorem Qo(h:Inv c G s a w){τ:Ty}{place:Nat->Option (Nat×Nat)}(hp:∀ i,place i=some (i * τ.size,τ.size)) :
  ∀ {ps:List (Nat×AV)} {vs:List (Nat×Value)} {n:Nat} {xs:List τ.den} {ids:List Nat} {l:List Value},He s.af τ n ps=some (xs,ids)->aT (λ p q=>p.1=q.1/\VR c G s.af w p.2 q.2) ps vs->ids.Nodup ->
   (n+ps.length) * τ.size=l.length->∃ r fp,Instr.fill place l.toArray vs=some (l.take (n * τ.size)++r).toArray/\bX w (xs.map τ.aR) r fp/\r.length=xs.length * τ.size/\fp.Nodup/\∀ b∈fp,xv G s.af ids b
 | [],[],n,xs,ids,l,h1,_,_,hl=>by
  simp only[He,a8o,a8u] at h1
  obtain⟨rfl,rfl⟩:=h1
  refine⟨[],[],?_,rfl,by simp,a9F,by simp⟩
  simp only[a8N,b0k] at hl
  rw[hl,b1c,a9N]
  rfl
 | (i,v)::ps,(j,x)::vs,n,xs,ids,l,h1,hv,dr,hl=>by
  obtain⟨⟨Cd,hx⟩,SM⟩:=hv
  have Cd:i=j:=Cd
  subst Cd
  simp only[He] at h1
  split at h1
  .rename_i gG
   have gG:=a8s gG
   subst gG
   split at h1
   .rename_i y i1 hy
    split at h1
    .rename_i ys js Oo
     simp only[a8o,a8u] at h1
     obtain⟨rfl,rfl⟩:=h1
     rw[a8S] at dr
     obtain⟨n1,n2,n3⟩:=dr
     obtain⟨f1,o1,o2,o3⟩:=vD h hy hx n1
     have hr:=ET.cells o1
     have cO:x.cells.size=τ.size:=by
      have:=Ow.length _ hr
      rw[Ty.cT] at this
      simpa using this
     simp only[a8C] at hl
     have My:=τ.size_pos
     have e1:(i+(ps.length+1)) * τ.size=i * τ.size+τ.size+ps.length * τ.size:=by
      rw[a9C,a9C];omega
     rw[Ob place i _ _ x vs l (hp i) cO (by omega)]
     obtain⟨r,f2,q1,q2,q3,q4,q5⟩:=Qo h hp (l:=l.take (i * τ.size)++x.cells.toList++l.drop (i * τ.size+τ.size)) Oo SM n2 (by
      simp[cO]
      rw[show (i+1+ps.length) * τ.size=i * τ.size+τ.size+ps.length * τ.size by rw[a9C,a9C];omega]
      omega)
     refine⟨x.cells.toList++r,f1++f2,?_,⟨_,_,f1,f2,rfl,rfl,hr,q2⟩,?_,?_,?_⟩
     .rw[q1]
      congr 2
      rw[show (i+1) * τ.size=i * τ.size+τ.size by rw[a9C];omega]
      have ht:(l.take (i * τ.size)++x.cells.toList).length=i * τ.size+τ.size:=by simp[cO];omega
      rw[<-ht,b0D,a9r]
     .simp only[a8K,a8C,a9v,cO,q3,a9C];omega
     .exact eB o2 q4 λ b hb cD=>h.la (o3 b hb) (q5 b cD) (λ x hx y hy=>n3 x hx y hy)
     .intro b hb
      rcases a8t.1 hb with hb|hb
      .exact (o3 b hb).mono λ i hi=>by simp[hi]
      .exact (q5 b hb).mono λ i hi=>by simp[hi]
    .cases h1
   .cases h1
  .cases h1
 | [],_::_,_,_,_,_,_,hv,_,_=>hv.elim
 | _::_,[],_,_,_,_,_,hv,_,_=>hv.elim
theorem bN.a2U{X Y:Nat->Prop}{w w':World}(h:bN X w w')(hXY:∀ b,X b->Y b):bN Y w w':=⟨h.os,h.tape,h.output,h.size,λ b hb hn=>h.block b hb λ hx=>hn (hXY b hx)⟩
theorem Wv(h:Inv c G s a w){ids:List Nat}{b:Nat}(hb:xv G s.af ids b):b<w.heap.size:=(L9 h hb).2.2.1
theorem Yo{lk:Nat->Option aB}{τ:Ty}{v:AV}{r:τ.den×List Nat}(h:fZ lk τ v=some r):v.cell=true\/∃ s x,v = .aW ⟨.st s,x⟩:=by
 cases v with
 | aW u =>
  obtain⟨bo,x⟩:=u
  cases bo with
  | st s=>exact .inr ⟨s,x,rfl⟩
  | _=>exact .inl rfl
 | nil=>exact .inl rfl
 | aE id=>exact .inl rfl
 | row id=>exact .inl rfl
 | _=>simp[fZ] at h
theorem a3m(h:Inv c G s a w){τ:Ty}{v:AV}{x:Value}{xs:List τ.den}{ids:List Nat}(ht:fZ s.af (.slice τ) v=some (xs,ids))(hv:VR c G s.af w v x):∃ fp,Ow w (.slice τ.size (xs.map τ.aR)) [x] fp/\fp.Nodup/\∀ b∈fp,xv G s.af ids b:=by
 rcases Yo ht with hc|⟨st,y,rfl⟩
 .exact AH h ht (hv.VE hc)
 .simp[fZ,Ty.AG] at ht
theorem mW:∀ {us:List TV} {cs:List Value} {fp:List Nat},di w (us.map TV.aR) cs fp->Bw us->di w ((us.map Y0).map TV.aR) cs fp
 | [],_,_,h,_=>h
 | ⟨τ,x⟩::us,cs,fp,h,hf=>by
  obtain⟨v,r,f1,f2,rfl,rfl,h3,h4⟩:=h
  cases τ with
  | mv t =>
   have hf:Option.isSome (α:=List t.den) x=true/\Bw us:=hf
   refine⟨v,r,f1,f2,rfl,rfl,?_,mW h4 hf.2⟩
   match x,hf.1,h3 with
   | some l,_,h3=>exact h3
  | ptr=>exact⟨v,r,f1,f2,rfl,rfl,h3,mW h4 hf⟩
  | int k=>exact⟨v,r,f1,f2,rfl,rfl,h3,mW h4 hf⟩
  | bool=>exact⟨v,r,f1,f2,rfl,rfl,h3,mW h4 hf⟩
  | str=>exact⟨v,r,f1,f2,rfl,rfl,h3,mW h4 hf⟩
  | slice t=>exact⟨v,r,f1,f2,rfl,rfl,h3,mW h4 hf⟩
  | st q=>exact⟨v,r,f1,f2,rfl,rfl,h3,mW h4 hf⟩
theorem L3:∀ {us:List TV} {cs:List Value} {fp:List Nat},di w (us.map TV.aR) cs fp->(∀ u∈us,u.τ.Rq=true)->di w ((us.map V0).map TV.aR) cs []
 | [],_,_,h,_=>⟨h.1,rfl⟩
 | ⟨τ,x⟩::us,cs,fp,h,hf=>by
  obtain⟨v,r,f1,f2,rfl,rfl,h3,h4⟩:=h
  have hr:=L3 h4 λ u hu=>hf u (by simp[hu])
  have sc:τ.AG=true->Ow w (τ.aR x) [v] []:=λ hs=>Ow.fU (S:=λ _=>True) _ (vA hs x) (Ow.rd _ h3 λ _ _=>trivial)
  have hm:τ.Rq=true:=hf ⟨τ,x⟩ (by simp)
  cases τ with
  | mv t =>
   refine⟨v,r,[],[],rfl,rfl,?_,hr⟩
   match x,h3 with
   | some l,h3=>obtain⟨a',cap,k1,_⟩:=h3;exact⟨⟨_,_,_,k1⟩,rfl⟩
   | none,h3=>exact⟨h3.1,rfl⟩
  | int k=>exact⟨v,r,[],[],rfl,rfl,sc rfl,hr⟩
  | bool=>exact⟨v,r,[],[],rfl,rfl,sc rfl,hr⟩
  | str=>exact⟨v,r,[],[],rfl,rfl,sc rfl,hr⟩
  | slice t=>cases hm
  | ptr=>exact⟨v,r,[],[],rfl,rfl,sc rfl,hr⟩
  | st q=>cases hm
theorem a1n(l:List Value)(k n:Nat):l.take k++(l.drop k).take n++l.drop (k+n)=l:=by
 rw[a9r,<-a9Y,a9K,a9K]
theorem Inv.a5G(h:Inv c G s a w){id i:Nat}{p q:aS}{xs:List (Ty.den (.st p))}{y:p.den}{z:q.den}(bf:s.af id=some (.aE (.st p) xs))
  (hy:p.gX ((p.cells (xs.getD i (Ty.zero (.st p)))).map V0)=some y) (hz:q.gX ((p.cells (xs.getD i (Ty.zero (.st p)))).map Y0)=some z) (Dt:p.xH.all Ty.Rq=true)
  (a5y:Bw (p.cells (xs.getD i (Ty.zero (.st p))))) {a0:Option Addr} {n cap:Nat} {l:List Value} (iM:G.η id = .tuple (.slice a0 n cap::l).toArray) (hi:i<n) :
  ∃ G' f1 b,a0=some ⟨b,0,none⟩/\ct w b (i * p.size) ((l.drop (i * p.size)).take p.size)/\((l.drop (i * p.size)).take p.size).length=p.size/\Inv c G' (s.cM.mO id (.st p) (xs.set i y)) a w /\
   Ow w (q.aR z) ((l.drop (i * p.size)).take p.size) f1/\f1.Nodup/\Fr c G' (s.cM.mO id (.st p) (xs.set i y)).af w f1:=by
 have hT:=h.bc.tr id _ xs bf
 obtain⟨hn,b,f,t,e1,Uq,hh,fD⟩:=CS hT iM hi
 have XP:i<xs.length:=by omega
 have I9:l.length=cap * p.size/\xs.length<=cap/\cap<=maxLen/\xs.length<=140737488355328:=by
  obtain⟨v0,l0,a1,Xd,k1,k2,k3,k4,k5,k6⟩:=hT
  rw[iM] at k1
  simp only[a9U] at k1
  have k1:(Value.slice a0 n cap::l)=v0::l0:=congrArg Array.toList k1
  simp only[a8z] at k1
  obtain⟨k7,rfl⟩:=k1
  rw[k2] at k7
  simp only[b0g] at k7
  obtain⟨_,_,rfl⟩:=k7
  rcases k6 with ⟨rfl,_,_⟩|⟨_,_,_,_,_,_,k8,_⟩
  .simp at XP
  .exact⟨k8,k3,k4,k5⟩
 have cO:∀ d∈xs.map (Ty.aR (.st p)),d.size=p.size:=KP (τ := .st p) xs
 obtain⟨f0,f1,f2,hf,m0,m1,m2⟩:=bX.split (xs.map (Ty.aR (.st p))) i (Ty.aR (.st p) (xs.getD i (Ty.zero (.st p)))) fD cO (by simp[List.getD,XP])
 have zU:((l.drop (i * p.size)).take p.size).length=p.size:=by rw[a8U,a9w];omega
 have m1:Ow w (.agg ((p.cells (xs.getD i (Ty.zero (.st p)))).map TV.aR)) ((l.drop (i * p.size)).take p.size) f1:=by
  have:=m1
  rwa [show Ty.aR (.st p) (xs.getD i (Ty.zero (.st p)))=p.aR (xs.getD i (Ty.zero (.st p))) from rfl,aS.cF] at this
 have hz':Ow w (q.aR z) ((l.drop (i * p.size)).take p.size) f1:=by
  rw[aS.cF,aS.qC hz]
  exact mW m1 a5y
 have Zl:Ow w (p.aR y) ((l.drop (i * p.size)).take p.size) []:=by
  rw[aS.cF,aS.qC hy]
  refine L3 m1 λ u hu=>?_
  have:u.τ∈p.xH:=by rw[<-aS.xF p (xs.getD i (Ty.zero (.st p)))];exact a8A.2 ⟨u,hu,rfl⟩
  exact a9a.1 Dt _ this
 have hr:=m2 w (p.aR y) _ [] (λ _ _=>rfl) zU Zl
 rw[a1n,a9N] at hr
 have dr:=h.bc.nd id _ xs bf
 rw[Uq,a9j,hf] at dr
 obtain⟨Mt,dr⟩:=dr
 have a8m:=dr
 rw[a8S,a8S] at dr
 obtain⟨⟨d0,d1,d01⟩,d2,a4z⟩:=dr
 have hT':lA w (G.η id) (.st p) (xs.set i y) (b::(f0++f2)):=by
  refine⟨_,l,a0,cap,iM,by rw[hn,b0b],by rw[b0b];exact I9.2.1,I9.2.2.1,by rw[b0b];exact I9.2.2.2, .inr ⟨b,f0++f2,t,e1,rfl,hh,I9.1,?_⟩⟩
  rw[b0W]
  exact hr
 have Jc:∀ k∈b::(f0++f2),k∈G.φ id:=λ k hk=>by
  rw[Uq,hf]
  simp only[a8I,a8t] at hk ⊢
  rcases hk with hk|hk|hk<;>simp[hk]
 have a7b:(b::(f0++f2)).Nodup:=by
  refine a9j.2 ⟨λ hk=>Mt ?_,eB d0 d2 λ x hx Fc=>a4z x (by simp[hx]) x Fc rfl⟩
  simp only[a8t] at hk ⊢
  rcases hk with hk|hk<;>simp[hk]
 have hf1:∀ k∈f1,k∈G.φ id/\k∉b::(f0++f2):=λ k hk=>by
  refine⟨by rw[Uq,hf];simp[hk],λ hm=>?_⟩
  simp only[a8I,a8t] at hm
  rcases hm with rfl|hm|hm
  .exact Mt (by simp[hk])
  .exact d01 k hm k hk rfl
  .exact a4z k (by simp[hk]) k hm rfl
 obtain⟨g1,g2,g3⟩:=h.cM
 have Vd:s.cM.af id=some (.aE (.st p) xs):=by rw[np];simp[bf,aB.dm]
 let A:List (Nat×TE):=[(id,(G.η id,b::(f0++f2), .aE (.st p) (xs.set i y)))]
 have T:=IW.ofList (c:=c) (G:=G) (lk:=s.cM.af) (w:=w) (w':=w) (A:=A) (λ e he=>by
  simp only[A,a9q] at he
  subst he
  exact⟨_,xs,_,_,l,l,Vd,rfl,iM,iM,hT',a7b⟩) (λ e he k hk=>by
  simp only[A,a9q] at he
  subst he
  exact .inl ⟨_,a9q.2 rfl,Jc k hk⟩) (λ e he e' Cb _ _ _=>by
  simp only[A,a9q] at he Cb
  rw[he,Cb]) (by simp[A]) (λ _ _ _=>rfl) rfl rfl rfl (a9i _)
 have hI:=bz.fK g1 T g2 g3
 have cG:(s.cM.mO id (.st p) (xs.set i y)).af=Yp A s.cM.af:=by
  funext j
  rw[qA,Yq]
 refine⟨⟨G.S,Hh A G,AI A G⟩,f1,b,e1,?_,zU,?_,hz',d1,?_⟩
 .have:=(ct.of_heap hh).part (i * p.size) p.size
  rwa [a9Z] at this
 .unfold Inv
  rw[cG]
  exact hI
 .intro k hk
  obtain⟨k1,k2⟩:=hf1 k hk
  obtain⟨q1,q2,q3,q4⟩:=g1.bc.pl id _ xs k Vd k1
  refine⟨q1,q2,q3,λ j o hj rn=>?_,λ j τ ys hj rn=>?_⟩
  .have rn:eV (Hh A G j)=some k:=rn
   rw[qA] at hj
   by_cases vR:j=id
   .subst vR
    have:Hh A G j=G.η j:=by simp[Hh,A,af]
    rw[this,iM] at rn
    cases rn
   .rw[a8y vR] at hj
    have:Hh A G j=G.η j:=by
     have fG:Nat.beq id j=false:=by
      cases hb:Nat.beq id j with
      | false=>rfl
      | true=>exact absurd (a8s hb).symm vR
     simp[Hh,A,af,fG]
    rw[this] at rn
    exact q4 j o hj rn
  .have rn:k∈AI A G j:=rn
   rw[qA] at hj
   by_cases vR:j=id
   .subst vR
    have:AI A G j=b::(f0++f2):=by simp[AI,A,af]
    rw[this] at rn
    exact k2 rn
   .rw[a8y vR] at hj
    have:AI A G j=G.φ j:=by
     have fG:Nat.beq id j=false:=by
      cases hb:Nat.beq id j with
      | false=>rfl
      | true=>exact absurd (a8s hb).symm vR
     simp[AI,A,af,fG]
    rw[this] at rn
    exact vR (g1.bc.ap j id _ _ _ _ k hj Vd rn k1)
theorem YN(hE:bP c.P c.E)(h:Inv c G s a w){o:Oper}{vc:Vc}{s':ah}(hq:VW c.E s o=some (vc,s'))(fk:vc.ok){Q:Exit->Act->World->Prop} :
  o.wp c.P a w (λ a' w'=>∃ G',Inv c G' s' a' w') Q:=by
 unfold VW at hq
 split at hq
 case h_2=>cases hq
 case h_1 d hd =>
 split at hq
 case h_2=>cases hq
 case h_1 va =>
 split at hq
 case h_4=>cases hq
 case h_1 T len parts bE =>
  split at hq
  case h_2=>cases hq
  case h_1 τ p hT =>
  obtain⟨b,e⟩:=p
  split at hq
  case h_2=>cases hq
  case h_1 hlen =>
  split at hq
  case h_2=>cases hq
  case h_1 xs ids ot =>
  split at hq
  case h_2=>cases hq
  case h_1 hb tN =>
  simp only[a8o,a8u] at hq
  obtain⟨rfl,rfl⟩:=hq
  simp only[a8r] at hlen
  have hl1:=a8s hlen.1
  have hl2:=a9u hlen.2
  subst hl1
  obtain⟨h1,⟨b',e',h2⟩,i,z,h3,h4,h5,h6,h7⟩:=hE.slice hT
  have My:=τ.size_pos
  have Mx:τ.size<=100:=Ty.size_le τ
  have a6L:parts.size * τ.size<=16777216:=b0N (Nat.mul_le_mul hl2 Mx) (by decide)
  obtain⟨r,fp,h8,h9,h10,h11,h12⟩:=Qo (place:=λ i=>some (i * τ.size,τ.size)) h (λ _=>rfl) (l:=((Array.range (parts.size * τ.size)).map (λ j=>((if parts.size * τ.size=0 then #[] else z.cells:Array Value)[j % (if parts.size * τ.size=0 then #[] else z.cells:Array Value).size]!))).toList) ot (aT.HE (bC h) _) (dA hb) (by simp)
  have vS:=TW ot
  simp only[a8R,a9v] at vS
  rw[vS] at h10
  simp only[b1z,a9D,a8T,a9A] at h8
  have cZ:(execOp a.eval o).run c.P w = .ok (.value (.slice (some ⟨w.heap.size,0,none⟩) parts.size parts.size)) (w.alloc (.cells r.toArray e)):=by
   have e2:(parts.map λ (i,x)=>(i,a.eval x)).toList=parts.toList.map λ p=>(p.1,a.eval p.2):=by simp
   have k9:¬ (parts.size * τ.size>2 ^ 24):=by omega
   simp only[execOp,bE,Instr.buildSlice,a8Y,a9s h1,a8Q,hE.sizeOf h2,a8y k9,a8Z]
   by_cases h0:parts.size * τ.size=0
   .simp only[h0,b0r,a8Y,a8Z,a8Q,e2] at h8 ⊢
    rw[h8]
    simp[newRow]
   .simp only[h0,b1q,a8Y,zeroValue,typeInfo,run_program,a8Q,h3,h6,a8Z,e2] at h8 ⊢
    rw[h8]
    simp[newRow]
  unfold Oper.wp
  rw[cZ]
  show ∃ G',Inv c G' _ (a.put o.dst _) _
  rw[hd]
  have bS:∀ k∈fp,k<w.heap.size:=λ k hk=>Wv h (h12 k hk)
  have fD:bX (w.alloc (.cells r.toArray e)) (xs.map τ.aR) r fp:=bX.aU _ h9 λ k hk=>b2g w _ k (bS k hk)
  refine Inv.built h (zs:=xs) (fp:=w.heap.size::fp) (l:=r) ((iN w _).a2U λ _ k=>k.elim) ⟨_,_,some ⟨w.heap.size,0,none⟩,parts.size,rfl,by rw[vS],by rw[vS];omega,by simp only[maxLen];omega,by rw[vS];omega, .inr ⟨w.heap.size,fp,e,rfl,rfl,b0U w _,h10,fD⟩⟩ ⟨_,_,_,rfl⟩ (a9j.2 ⟨λ hh=>b0K _ (bS _ hh),h11⟩) (λ k hk=>?_) tN
  rcases a8I.1 hk with rfl|hk
  .exact .inr ⟨a9i _,by simp⟩
  .exact .inl (h12 k hk)
 case h_2 T ad bE =>
  split at hq
  case h_2=>cases hq
  case h_1 q r id i sz hT hx =>
  split at hq
  case h_2=>cases hq
  case h_1 p xs bf =>
  split at hq
  case h_2=>cases hq
  case h_1 y z hb hy hz =>
  split at hq
  case h_2=>cases hq
  case h_1 Iv =>
  simp only[a8o,a8u] at hq
  obtain⟨rfl,rfl⟩:=hq
  simp only[a8r] at hb Iv
  have cO:=a8s hb.1
  subst cO
  have hp:=bC h ad
  rw[hx] at hp
  obtain⟨_,b,n,cap,l,iM,hi,hp⟩:=hp
  obtain⟨G1,f1,b',e1,vN,hlen,hI,hO,dr,hF⟩:=h.a5G bf hy hz hb.2 fk iM hi
  simp only[a8o,b0x,a8F] at e1
  subst e1
  have hqs:q.size=p.size:=by
   have e:=Ow.length _ hO
   rw[show (q.aR z).size=q.size from Ty.cT (.st q) z] at e
   omega
  have cZ:(execOp a.eval o).run c.P w = .ok (.value (.agg ((l.drop (i * p.size)).take p.size).toArray)) w:=by
   simp only[execOp,bE,hp,b0k,a8Y,pt hE hT vN (by rw[hlen];exact hqs.symm),a8Q,a8Z]
   rfl
  unfold Oper.wp
  rw[cZ]
  show ∃ G',Inv c G' _ (a.put o.dst _) _
  rw[hd]
  have vP:∀ e∈cd (bY d) (TV.cells ⟨.st q,z⟩),(s.cM.mO id (.st p) (xs.set i y)).af e.1=none:=λ e he=>by
   have h0:(s.af e.1).isNone=true:=a9a.1 Iv.1 e he
   have fG:e.1≠id:=λ hh=>by rw[hh,bf] at h0;cases h0
   rw[qA,a8y fG,np]
   show Option.map aB.dm (s.af e.1)=none
   cases hl:s.af e.1 with
   | none=>rfl
   | some o=>rw[hl] at h0;cases h0
  obtain⟨G2,lk',k1,k2,k3,k4,_⟩:=bz.VO (v:=⟨.st q,z⟩) (id:=bY d) hI ⟨_,rfl,hO⟩ dr hF vP (dA Iv.2) (λ j hj=>by
   cases hr:c.R j with
   | none=>rfl
   | some v=>have:=h.lj j v hr;unfold bY at hj;omega)
  refine⟨G2,?_⟩
  have cG:ah.af { aC:=s.cM.aC.set d (lv (bY d) ⟨.st q,z⟩),aK:=cd (bY d) (q.cells z)++(s.cM.mO id (.st p) (xs.set i y)).aK }=lk':=by
   funext j
   rw[k1 j]
   exact r6 _ _ j
  unfold Inv
  rw[cG,show ah.sl { aC:=s.cM.aC.set d (lv (bY d) ⟨.st q,z⟩),aK:=cd (bY d) (q.cells z)++(s.cM.mO id (.st p) (xs.set i y)).aK }=mZ s.cM.aC.length s.cM.sl (some d) (lv (bY d) ⟨.st q,z⟩) from tn s.cM.aC d _ _,
   show ({ aC:=s.cM.aC.set d (lv (bY d) ⟨.st q,z⟩),aK:=cd (bY d) (q.cells z)++(s.cM.mO id (.st p) (xs.set i y)).aK }:ah).aC.length=s.cM.aC.length from by simp]
  exact bz.put k2 k4.iU
 case h_3 cl bE =>
  split at hq
  case h_3=>cases hq
  case h_2 f jQ =>
   split at hq
   case h_1=>cases hq
   case h_2 fl _ _ =>
   split at hq
   case h_2=>cases hq
   case h_1 own ids ht =>
   split at hq
   case h_2=>cases hq
   case h_1 Z9 hb has =>
   split at hq
   case h_2=>cases hq
   case h_1 pre res hc =>
   split at hq
   case h_2=>cases hq
   case h_1 Iv =>
   simp only[a8o,a8u] at hq
   obtain⟨rfl,rfl⟩:=hq
   simp only[a8r,a9a] at Iv
   have vP:∀ p∈bx (bY d) res,(ids.foldl ah.gone s).af p.1=none:=λ p hp=>by simpa using Iv.1 p hp
   have tD:=dA Iv.2
   obtain⟨vO,rp⟩:=hE.MN f Z9 pre res hc fk
   obtain⟨AS,t1,t2,t3,t4⟩:=yN h ht (dA hb) (aT.rj (bC h) _)
   have h1:Inv c G (ids.foldl ah.gone s) a w:=xK ids h
   have hF:∀ b,b∈AS.flatten->xu c G (ids.foldl ah.gone s).af w b:=λ b hb=>L9 h (t4 b hb)
   obtain⟨m1,m2⟩:=vU hE h1 has t1 t2 (aT.rj (bC h1) _)
   generalize XN:ids.foldl ah.gone s=s1 at *
   unfold Oper.wp
   rw[mN bE jQ rfl vO]
   simp only[Oper.upon]
   refine (rp w (SX G s1.af) _ AS.flatten ?_ m1 (.inr m2) t3 (λ b hb=>⟨(hF b hb).2.2.1,(hF b hb).a3W⟩)).mono ?_
   .exact h1.a0B
   .rintro e w' ⟨x,fp,rfl,hk,hO,dr,u6⟩
    have hI:=Inv.over h1 hF hk
    obtain⟨ys,AX,Uo⟩:=K1 (c:=c) (id:=bY d) hO
    have hFr:Fr c G s1.af w' fp:=λ b hb=>by
     rcases u6 b hb with hi|⟨q1,q2⟩
     .obtain⟨f1,f2,f3,f4,f5⟩:=hF b hi
      exact⟨f1,f2,a8G f3 hk.size,f4,f5⟩
     .refine⟨.inl (b0N h1.aU.size q1),λ hs=>?_,q2,λ i o' hi xN=>?_,λ j τ zs hj rn=>?_⟩
      .have:=h1.ez b hs;omega
      .have:=(h1.place i o' b hi xN).2.2;omega
      .have:=(h1.bc.pl j τ zs b hj rn).2.2.1;omega
    obtain⟨G',lk',k1,k2,k3,k4,_⟩:=hI.Lq (id:=bY d) AX dr hFr vP tD (λ j hj=>by
     cases hr:c.R j with
     | none=>rfl
     | some v=>have:=h.lj j v hr;unfold bY at hj;omega)
    refine⟨G',?_⟩
    have cG:ah.af { aC:=s1.aC.set d (nw (bY d) res),aK:=bx (bY d) res++s1.aK }=lk':=by
     funext i
     rw[k1 i]
     exact r6 _ _ i
    unfold Inv
    rw[cG,hd,show ah.sl { aC:=s1.aC.set d (nw (bY d) res),aK:=bx (bY d) res++s1.aK }=mZ s1.aC.length s1.sl (some d) (nw (bY d) res) from tn s1.aC d _ _,
     show ({ aC:=s1.aC.set d (nw (bY d) res),aK:=bx (bY d) res++s1.aK }:ah).aC.length=s1.aC.length from by simp]
    exact bz.put k2 (Uo G' lk' k4)
  case h_1 jQ =>
  split at hq
  case h_2=>cases hq
  case h_1 T T' Wb =>
  split at hq
  case h_2=>cases hq
  case h_1 τ b e Sw hT =>
  have Sw:=a8s Sw
  subst Sw
  split at hq
  case h_2=>cases hq
  case h_1 x y fB =>
  split at hq
  case h_2=>cases hq
  case h_1 xs i ys j hx hy =>
  split at hq
  case h_2=>cases hq
  case h_1 hb tN =>
  simp only[a8o,a8u] at hq
  obtain⟨rfl,rfl⟩:=hq
  obtain⟨v,z,e1,e2,e3⟩:=a3y h fB
  have hb:=dA hb
  rw[a8S] at hb
  obtain⟨n1,n2,n3⟩:=hb
  obtain⟨fx,o1,o2,o3⟩:=a3m h hx e2
  obtain⟨fy,p1,p2,p3⟩:=a3m h hy e3
  obtain⟨v',w',fp,l,k1,k2,k3,k4,k5,k6⟩:=VQ (c:=c) (w:=w) hE hT o1 p1 (λ k hk=>Wv h (o3 k hk)) (λ k hk=>Wv h (p3 k hk)) o2 p2
   (λ k hk oS=>h.la (o3 k hk) (p3 k oS) λ x hx y hy=>n3 x hx y hy) fk o.type
  have Mp:cl.argTypes = #[T,T]:=by rw[<-a9A (xs:=cl.argTypes),Wb]
  have Gk:cl.args.map a.eval = #[v,z]:=by rw[<-a9A (xs:=cl.args.map a.eval),b0q,e1]
  have SC:(execOp a.eval o)=(do let d <-resolve a.eval cl o.type;invoke d.target d.args):=by simp[execOp,bE]
  have P8:(execOp a.eval o).run c.P w=((Builtin.append_ #[T,T] o.type #[v,z]).run c.P w).andThen λ v w => .ok (.value v) w:=by
   rw[SC]
   simp[resolve,jQ,invoke,builtin,Mp,Gk]
  unfold Oper.wp
  rw[P8,k1]
  show ∃ G',Inv c G' _ (a.put o.dst _) _
  rw[hd]
  refine Inv.built h (zs:=xs++ys) (fp:=fp) (l:=l) (k6.a2U λ k hk=>(o3 k hk).mono λ i hi=>by simp[hi]) k2 k3 k4 (λ k hk=>?_) tN
  rcases k5 k hk with hk|hk|hk
  .exact .inl ((o3 k hk).mono λ i hi=>by simp[hi])
  .exact .inl ((p3 k hk).mono λ i hi=>by simp[hi])
  .exact .inr hk
end
end Go.Proofs.YtmjfpcajohhbeaaGreatDoor

namespace Go.Proofs.YtmjfpcajohhbeaaGreatDoor
def a5P:Value->Nat
 | .pointer (some a)=>a.block
 | _=>0
def pG(G:Gh)(m:List (Nat×Nat))(k:Nat):Nat:=match af m k with
 | some id=>a5P (G.η id)
 | none=>0
def oG(m m':List (Nat×Nat)):Prop:=∀ k id,af m k=some id->af m' k=some id
theorem oG.refl(m:List (Nat×Nat)):oG m m:=λ _ _ h=>h
theorem oG.trans{a b c:List (Nat×Nat)}(h:oG a b)(k:oG b c):oG a c:=λ i id q=>k i id (h i id q)
theorem r7{α:Type}(k:Nat)(o:α)(l:List (Nat×α))(j:Nat):af ((k,o)::l) j=if j=k then some o else af l j:=by
 have e:af ((k,o)::l) j=match Nat.beq k j with
  | true=>some o
  | false=>af l j:=rfl
 rw[e]
 cases hb:Nat.beq k j with
 | true=>rw[a8O (a8s hb).symm]
 | false=>rw[a8y (λ e=>by subst e;rw[b1V] at hb;cases hb)]
theorem Sg{m:List (Nat×Nat)}{k id:Nat}(h:af m k=none):oG m ((k,id)::m):=λ i j q=>by
 rw[r7]
 by_cases hi:i=k
 .subst hi;rw[h] at q;cases q
 .rw[a8y hi];exact q
theorem S4{m:List (Nat×Nat)}{k id:Nat}:af ((k,id)::m) k=some id:=by rw[r7,a8O rfl]
section
variable {c:Ctx} {G:Gh} {s:ah} {a:Act} {w w':World}
theorem a1O{lk:Nat->Option aB}{τ:Ty}{v:AV}{x:Value}{y:τ.den}(h:mS (λ _=>none) τ v=some y)(hv:C1 c G lk w v x):Rd w G.S (τ.aR y) [x]:=Rh h hv
theorem rk{sl:Nat->AV}{n:Nat}{lk:Nat->Option aB}(h:bz c G sl n lk a w):∀ {ks:List CK} {cs:List AV} {m m':List (Nat×Nat)} {ds:List TV} {ids:List Nat} {l:List Value},dk lk ks cs m=some (ds,ids,m')->ids.Nodup->aT (C1 c G lk w) cs l ->
  oG m m'/\∃ fp,(∀ mf,oG m' mf->oF w G.S (pG G mf) ks ds l fp)/\fp.Nodup/\∀ b∈fp,xv G lk ids b
 | [],[],m,m',ds,ids,l,ht,_,hv=>by
  simp only[dk,a8o,a8u] at ht
  obtain⟨rfl,rfl,rfl⟩:=ht
  match l,hv with
  | [],_=>exact⟨oG.refl _,[],λ _ _=>rfl,a9F,by simp⟩
 | .d τ::ks,v::cs,m,m',ds,ids,l,ht,hn,hv=>by
  simp only[dk] at ht
  split at ht
  case h_2=>cases ht
  case h_1 y hy Ee =>
  split at ht
  case h_2=>cases ht
  case h_1 ds1 XQ m1 hr =>
  simp only[a8o,a8u] at ht
  obtain⟨rfl,rfl,rfl⟩:=ht
  match l,hv with
  | x::l,hv =>
   obtain⟨e1,fp,e2,e3,e4⟩:=rk h hr hn hv.2
   exact⟨e1,fp,λ mf hm=>⟨⟨rfl,Ee,a1O hy hv.1⟩,e2 mf hm⟩,e3,e4⟩
 | .o τ::ks,v::cs,m,m',ds,ids,l,ht,hn,hv=>by
  simp only[dk] at ht
  split at ht
  case h_2=>cases ht
  case h_1 y i hy Ee =>
  split at ht
  case h_2=>cases ht
  case h_1 ds1 XQ m1 hr =>
  simp only[a8o,a8u] at ht
  obtain⟨rfl,rfl,rfl⟩:=ht
  rw[a8S] at hn
  obtain⟨n1,n2,n3⟩:=hn
  match l,hv with
  | x::l,hv =>
   obtain⟨e1,fp,e2,e3,e4⟩:=rk h hr n2 hv.2
   obtain⟨f1,o1,o2,o3⟩:=AH h hy hv.1
   refine⟨e1,f1++fp,λ mf hm=>⟨f1,fp,rfl,⟨rfl,Ee,o1⟩,e2 mf hm⟩,eB o2 e3 λ b hb cD=>h.la (o3 b hb) (e4 b cD) λ x hx y hy=>n3 x hx y hy,λ b hb=>?_⟩
   rcases a8t.1 hb with hb|hb
   .exact (o3 b hb).mono λ k hk=>by simp[hk]
   .exact (e4 b hb).mono λ k hk=>by simp[hk]
 | .p j::ks,v::cs,m,m',ds,ids,l,ht,hn,hv=>by
  simp only[dk] at ht
  split at ht
  case h_2=>cases ht
  case h_1 id =>
  match l,hv with
  | x::l,hv =>
   have key:∀ m1,dk lk ks cs m1=some (ds,ids,m')->oG m m1->af m1 j=some id->oG m m'/\∃ fp,(∀ mf,oG m' mf->oF w G.S (pG G mf) (.p j::ks) ds (x::l) fp)/\fp.Nodup/\∀ b∈fp,xv G lk ids b:=λ m1 hr hx hj=>by
    obtain⟨e1,fp,e2,e3,e4⟩:=rk h hr hn hv.2
    refine⟨hx.trans e1,fp,λ mf hm=>?_,e3,e4⟩
    have hv1:C1 c G lk w (.ptr id 0) x:=hv.1
    obtain⟨b,h1,h2,_⟩:=hv1
    have:pG G mf j=b:=by
     simp only[pG,hm j id (e1 j id hj),h1]
     rfl
    cases ds with
    | nil=>exact⟨by rw[this];exact h2,e2 mf hm⟩
    | cons d ds=>exact⟨by rw[this];exact h2,e2 mf hm⟩
   split at ht
   .rename_i i hi
    split at ht
    .rename_i hb
     have hb:=a8s hb
     subst hb
     exact key m ht (oG.refl _) hi
    .cases ht
   .rename_i k9
    exact key _ ht (Sg k9) S4
 | [],_::_,_,_,_,_,_,ht,_,_=>by simp[dk] at ht
 | .d _::_,[],_,_,_,_,_,ht,_,_=>by simp[dk] at ht
 | .o _::_,[],_,_,_,_,_,ht,_,_=>by simp[dk] at ht
 | .p _::_,[],_,_,_,_,_,ht,_,_=>by simp[dk] at ht
def a5d(lk:Nat->Option aB)(m:List (Nat×Nat))(k0 n:Nat):Prop:=∀ k,k0<=k->k<k0+n->∃ id cs,af m k=some id/\lk id=some (.box cs)
theorem wx{sl:Nat->AV}{n:Nat}{lk:Nat->Option aB}(h:bz c G sl n lk a w):∀ {sh:List (List CK)} {k:Nat} {m m':List (Nat×Nat)} {ca:List (List TV)} {ids:List Nat},lg lk sh k m=some (ca,ids,m')->ids.Nodup ->
  oG m m'/\a5d lk m' k sh.length/\∃ fp,(∀ mf,oG m' mf->ll w G.S (pG G mf) k sh ca fp)/\fp.Nodup/\∀ b∈fp,xv G lk ids b
 | [],k,m,m',ca,ids,ht,_=>by
  simp only[lg,a8o,a8u] at ht
  obtain⟨rfl,rfl,rfl⟩:=ht
  exact⟨oG.refl _,λ j h1 h2=>by simp at h2;omega,[],λ _ _=>rfl,a9F,by simp⟩
 | ks::sh,k,m,m',ca,ids,ht,hn=>by
  simp only[lg] at ht
  split at ht
  case h_2=>cases ht
  case h_1 id bf =>
  split at ht
  case h_2=>cases ht
  case h_1 cs oq =>
  split at ht
  case h_2=>cases ht
  case h_1 ds i m1 hr =>
  split at ht
  case h_2=>cases ht
  case h_1 a6z XQ m2 Zg =>
  simp only[a8o,a8u] at ht
  obtain⟨rfl,rfl,rfl⟩:=ht
  rw[a8S] at hn
  obtain⟨n1,n2,n3⟩:=hn
  obtain⟨b,l,t,q1,q2,q3⟩:=h.aK id _ oq
  obtain⟨e1,f1,e2,e3,e4⟩:=rk h hr n1 q3
  obtain⟨g1,g0,f2,g2,g3,g4⟩:=wx h Zg n2
  refine⟨e1.trans g1,λ j h1 h2=>?_,f1++f2,λ mf hm=>⟨l,t,f1,f2,rfl,?_,e2 mf (g1.trans hm),g2 mf hm⟩,eB e3 g3 λ b hb cD=>h.la (e4 b hb) (g4 b cD) λ x hx y hy=>n3 x hx y hy,λ b hb=>?_⟩
  .by_cases hj:j=k
   .subst hj
    exact⟨id,cs,(e1.trans g1) j id bf,oq⟩
   .exact g0 j (by omega) (by simp at h2;omega)
  .have:pG G mf k=b:=by
    simp only[pG,hm k id ((e1.trans g1) k id bf),q1]
    rfl
   rw[this]
   exact q2
  .rcases a8t.1 hb with hb|hb
   .exact (e4 b hb).mono λ k hk=>by simp[hk]
   .exact (g4 b hb).mono λ k hk=>by simp[hk]
theorem xC:∀ {fl:List (Option Nat)} {vs:List AV} {m m':List (Nat×Nat)},lC fl vs m=some m'->oG m m'/\∀ (i k:Nat),fl[i]?=some (some k)->∃ id,vs[i]?=some (AV.ptr id 0)/\af m' k=some id
 | [],[],m,m',h=>by
  simp only[lC,a8o] at h
  subst h
  exact⟨oG.refl _,λ i k q=>by simp at q⟩
 | none::fl,v::vs,m,m',h=>by
  obtain⟨h1,h2⟩:=xC (fl:=fl) (vs:=vs) h
  refine⟨h1,λ i k q=>?_⟩
  cases i with
  | zero=>simp at q
  | succ i=>exact h2 i k (by simpa using q)
 | some k::fl,v::vs,m,m',h=>by
  simp only[lC] at h
  split at h
  case h_2=>cases h
  case h_1 id =>
  have key:∀ m1,oG m m1->af m1 k=some id->lC fl vs m1=some m'->oG m m'/\∀ (i k':Nat),(some k::fl)[i]?=some (some k')->∃ dO,(AV.ptr id 0::vs)[i]?=some (AV.ptr dO 0)/\af m' k'=some dO:=λ m1 e1 e2 e3=>by
   obtain⟨h1,h2⟩:=xC e3
   refine⟨e1.trans h1,λ i k' q=>?_⟩
   cases i with
   | zero =>
    simp only[b1u,a8o] at q
    subst q
    exact⟨id,rfl,h1 k id e2⟩
   | succ i=>exact h2 i k' (by simpa using q)
  split at h
  .rename_i i hi
   split at h
   .rename_i hb
    have hb:=a8s hb
    subst hb
    exact key m (oG.refl _) hi h
   .cases h
  .rename_i k9
   exact key _ (Sg k9) S4 h
 | [],_::_,_,_,h=>by simp[lC] at h
 | some _::_,[],_,_,h=>by simp[lC] at h
 | none::_,[],_,_,h=>by simp[lC] at h
theorem si{lk:Nat->Option aB}{ids:List Nat}{id:Nat}{o:aB}(h:Bd lk ids id=some o):lk id=some o/\id∉ids/\∃ cs,o = .box cs:=by
 unfold Bd at h
 split at h
 .cases h
 .rename_i hc
  split at h
  .rename_i cs oq
   simp only[a8o] at h
   subst h
   exact⟨oq,by simpa using hc,cs,rfl⟩
  .cases h
theorem a1j(h1:Inv c G s a w){ids:List Nat}{X:Nat->Prop}(Sx:∀ b,X b->¬ St c G.S b)(Gc:∀ id cs b,Bd s.af ids id=some (.box cs)->eV (G.η id)=some b->¬ X b)
  {τ:Ty} {v:AV} {x:Value} {y:τ.den} (hy:deref (Bd s.af ids) τ v=some y) (hx:VR c G s.af w v x) (B:Nat->Nat):W1 w G.S X B (.ref ⟨τ,y⟩) x:=by
 have hd:=FX (S:=G.S) h1 (lk':=Bd s.af ids) (λ id o ho=>(si ho).1) (λ τ v x y h hv=>Bx (λ id e τ xs q=>by obtain⟨_,_,cs,e⟩:=si q;cases e) (λ id τ xs q=>by obtain⟨_,_,cs,e⟩:=si q;cases e) h hv) hy hx
 obtain⟨b,o,cs,k1,k2,k3,k4⟩:=hd
 refine⟨b,o,cs,k1,k2,?_,k3,k4⟩
 unfold deref at hy
 split at hy
 case h_2=>cases hy
 case h_1 u hu =>
 cases v with
 | dn z =>
  obtain⟨b',o',dN,q1,q2,_⟩:=hx
  rw[k1] at q1
  simp only[b1k,a8o,b0x] at q1
  obtain⟨rfl,_⟩:=q1
  exact λ hb=>Sx _ hb q2
 | ptr id off =>
  obtain⟨b',q1,q2,_⟩:=hx
  rw[k1] at q2
  simp only[b1k,a8o,b0x] at q2
  obtain⟨rfl,_⟩:=q2
  simp only[uJ] at hu
  split at hu
  .rename_i VX oq
   exact Gc id VX _ oq (by rw[q1];rfl)
  .cases hu
 | eY id i off =>
  simp only[uJ] at hu
  split at hu
  .rename_i hr
   obtain⟨_,_,cs,e⟩:=si hr
   cases e
  .cases hu
 | _=>simp[uJ] at hu
theorem G8(hE:bP c.P c.E)(h1:Inv c G s a w){ids:List Nat}{mf:List (Nat×Nat)}{X:Nat->Prop}(Sx:∀ b,X b->¬ St c G.S b)(Gc:∀ id cs b,Bd s.af ids id=some (.box cs)->eV (G.η id)=some b->¬ X b){lk0:Nat->Option aB} :
  ∀ {fl:List (Option Nat)} {Ts:List TypeId} {vs WZ:List AV} {xs:List Value} {Z9:List Arg},uB c.E (Bd s.af ids) fl Ts vs=some Z9->aT (VR c G s.af w) vs xs->aT (VR c G lk0 w) WZ xs ->
   (∀ (i k:Nat),fl[i]?=some (some k)->∃ id,WZ[i]?=some (AV.ptr id 0)/\af mf k=some id)->aT (W1 w G.S X (pG G mf)) Z9 xs
 | [],[],[],WZ,xs,Z9,h,hv,_,_=>by
  simp only[uB,a8o] at h
  subst h
  match xs,hv with
  | [],_=>trivial
 | some k::fl,T::Ts,v::vs,WZ,xs,Z9,h,hv,MA,hb=>by
  simp only[uB] at h
  split at h
  case h_2=>cases h
  case h_1 r hr =>
  simp only[a8o] at h
  subst h
  match xs,WZ,hv,MA with
  | x::xs,v0::WZ,hv,MA =>
   obtain⟨id,q1,q2⟩:=hb 0 k rfl
   simp only[b1u,a8o] at q1
   subst q1
   have hp:VR c G lk0 w (.ptr id 0) x:=MA.1
   obtain⟨b,k1,k2,_⟩:=hp
   refine⟨?_,G8 hE h1 Sx Gc hr hv.2 MA.2 λ i k' q=>by simpa using hb (i+1) k' (by simpa using q)⟩
   show x = .pointer (some ⟨pG G mf k,0,none⟩)
   simp only[pG,q2,k1]
   exact k2
  | x::xs,[],_,MA=>exact MA.elim
 | none::fl,T::Ts,v::vs,WZ,xs,Z9,h,hv,MA,hb=>by
  simp only[uB] at h
  split at h
  case h_2=>cases h
  case h_1 z hz =>
  split at h
  case h_2=>cases h
  case h_1 r QG hr =>
  simp only[a8o] at h
  subst h
  match xs,WZ,hv,MA with
  | x::xs,v0::WZ,hv,MA =>
   refine⟨?_,G8 hE h1 Sx Gc hr hv.2 MA.2 λ i k' q=>by simpa using hb (i+1) k' (by simpa using q)⟩
   have a7d:∀ id e τ xs,Bd s.af ids id≠some (.row e τ xs):=λ id e τ xs q=>by obtain⟨_,_,cs,e⟩:=si q;cases e
   have a7e:∀ id τ xs,Bd s.af ids id≠some (.aE τ xs):=λ id τ xs q=>by obtain⟨_,_,cs,e⟩:=si q;cases e
   unfold RP at hz
   split at hz
   .rename_i τ q hT
    split at hz
    .rename_i y hy
     simp only[a8o] at hz
     subst hz
     exact Bx a7d a7e hy hv.1
    .cases hz
   .split at hz
    .rename_i τ hT
     split at hz
     .rename_i y hy
      simp only[a8o] at hz
      subst hz
      exact a1j h1 Sx Gc hy hv.1 _
     .cases hz
    .split at hz
     .simp only[a8o] at hz
      subst hz
      cases QG
     .split at hz
      .rename_i f
       simp only[a8o] at hz
       subst hz
       exact hv.1
      .cases hz
  | x::xs,[],_,MA=>exact MA.elim
 | [],_::_,_,_,_,_,h,_,_,_=>by simp[uB] at h
 | [],[],_::_,_,_,_,h,_,_,_=>by simp[uB] at h
 | some _::_,[],_,_,_,_,h,_,_,_=>by simp[uB] at h
 | none::_,[],_,_,_,_,h,_,_,_=>by simp[uB] at h
 | some _::_,_::_,[],_,_,_,h,_,_,_=>by simp[uB] at h
 | none::_,_::_,[],_,_,_,h,_,_,_=>by simp[uB] at h
def dS:List CK->List TV->List TV
 | .d _::ks,_::ds=>dS ks ds
 | .o _::ks,v::ds=>v::dS ks ds
 | .p _::ks,ds=>dS ks ds
 | _,_=>[]
def oB:List CK->List Value->List Value
 | .o _::ks,x::xs=>x::oB ks xs
 | _::ks,_::xs=>oB ks xs
 | _,_=>[]
theorem oF.wP{S:Nat->Prop}{B:Nat->Nat}:∀ {ks:List CK} {ds:List TV} {l:List Value} {fp:List Nat},oF w S B ks ds l fp->di w ((dS ks ds).map TV.aR) (oB ks l) fp/\(∀ u∈dS ks ds,u.τ.agg=false)/\(dS ks ds).length=(oB ks l).length
 | [],[],[],fp,h=>⟨⟨rfl,h⟩,by simp[dS],rfl⟩
 | .d τ::ks,v::ds,x::xs,fp,h=>by
  obtain⟨_,h2⟩:=h
  obtain⟨k1,k2,k3⟩:=oF.wP h2
  exact⟨k1,k2,k3⟩
 | .o τ::ks,v::ds,x::xs,fp,h=>by
  obtain⟨f1,f2,rfl,⟨e,h1,h2⟩,h3⟩:=h
  obtain⟨k1,k2,k3⟩:=oF.wP h3
  refine⟨⟨x,oB ks xs,f1,f2,rfl,rfl,h2,k1⟩,λ u hu=>?_,by simp[dS,oB,k3]⟩
  rcases a8I.1 hu with rfl|hu
  .rw[e];exact h1
  .exact k2 u hu
 | .p j::ks,ds,x::xs,fp,h=>by
  have h:x = .pointer (some ⟨B j,0,none⟩)/\oF w S B ks ds xs fp:=by cases ds<;>exact h
  obtain⟨k1,k2,k3⟩:=oF.wP h.2
  refine⟨?_,?_,?_⟩<;>cases ds<;>first|exact k1|exact k2|exact k3
 | [],_::_,_,_,h=>h.elim
 | [],[],_::_,_,h=>h.elim
 | .d _::_,[],_,_,h=>by cases h
 | .o _::_,[],_,_,h=>by cases h
 | .d _::_,_::_,[],_,h=>by cases h
 | .o _::_,_::_,[],_,h=>by cases h
 | .p _::_,ds,[],_,h=>by cases ds<;>cases h
theorem ER:∀ (n:Nat) (a b:List TV),cd n (a++b)=cd n a++cd (n+a.length) b
 | n,[],b=>by simp[cd]
 | n,u::a,b=>by
  have:=ER (n+1) a b
  simp only[a9y,cd,this,a9r,a8C]
  rw[show n+1+a.length=n+(a.length+1) by omega]
theorem uy:∀ (n:Nat) (a b:List TV),cv n (a++b)=cv n a++cv (n+a.length) b
 | n,[],b=>by simp[cv]
 | n,u::a,b=>by
  have:=uy (n+1) a b
  simp only[a9y,cv,this,a8C]
  rw[show n+1+a.length=n+(a.length+1) by omega]
theorem di.append:∀ {a b:List D} {x y:List Value} {f g:List Nat},di w a x f->di w b y g->di w (a++b) (x++y) (f++g)
 | [],b,x,y,f,g,h,k=>by
  obtain⟨rfl,rfl⟩:=h
  exact k
 | d::a,b,x,y,f,g,h,k=>by
  obtain⟨v,r,f1,f2,rfl,rfl,h3,h4⟩:=h
  exact⟨v,r++y,f1,f2++g,rfl,by simp,h3,h4.append k⟩
theorem tj{m:List (Nat×Nat)}{S:Nat->Prop}{B:Nat->Nat}{G':Gh}{lk':Nat->Option aB}(hS:∀ b,S b->G'.S b)(hB:∀ j id,af m j=some id->G'.η id = .pointer (some ⟨B j,0,none⟩)/\iy (lk' id)=true) :
  ∀ {ks:List CK} {cs:List AV} {ds:List TV} {n n':Nat} {r:List AV} {os:List (Nat×aB)} {l:List Value} {fp:List Nat},cj m ks cs ds n=some (r,os,n')->oF w S B ks ds l fp->aT (C1 c G' lk' w) (cv n (dS ks ds)) (oB ks l) ->
   aT (C1 c G' lk' w) r l
 | [],[],[],n,n',r,os,l,fp,h,hb,hc=>by
  simp only[cj,a8o,a8u] at h
  obtain⟨rfl,rfl,rfl⟩:=h
  match l,hb with
  | [],_=>trivial
 | .d τ::ks,c0::cs,v::ds,n,n',r,os,l,fp,h,hb,hc=>by
  simp only[cj] at h
  split at h
  case h_2=>cases h
  case h_1 hv =>
  split at h
  case h_2=>cases h
  case h_1 r1 X7 n1 hr =>
  simp only[a8o,a8u] at h
  obtain⟨rfl,rfl,rfl⟩:=h
  match l,hb with
  | x::l,hb =>
   obtain⟨⟨e,h1,h2⟩,h3⟩:=hb
   exact⟨⟨by rw[e];exact h1,Rd.aU hS (λ _ _=>rfl) _ h2⟩,tj hS hB hr h3 hc⟩
 | .o τ::ks,c0::cs,v::ds,n,n',r,os,l,fp,h,hb,hc=>by
  simp only[cj] at h
  split at h
  case h_2=>cases h
  case h_1 hv =>
  split at h
  case h_2=>cases h
  case h_1 r1 X7 n1 hr =>
  simp only[a8o,a8u] at h
  obtain⟨rfl,rfl,rfl⟩:=h
  match l,hb with
  | x::l,hb =>
   obtain⟨f1,f2,rfl,⟨e,h1,h2⟩,h3⟩:=hb
   exact⟨hc.1,tj hS hB hr h3 hc.2⟩
 | .p j::ks,c0::cs,ds,n,n',r,os,l,fp,h,hb,hc=>by
  simp only[cj] at h
  split at h
  case h_2=>cases h
  case h_1 id =>
  split at h
  case h_2=>cases h
  case h_1 i hi =>
  split at h
  case h_2=>cases h
  case h_1 r1 X7 n1 hbe hr =>
  have hbe:=a8s hbe
  subst hbe
  simp only[a8o,a8u] at h
  obtain⟨rfl,rfl,rfl⟩:=h
  match l,hb with
  | x::l,hb =>
   have hb:x = .pointer (some ⟨B j,0,none⟩)/\oF w S B ks ds l fp:=by cases ds<;>exact hb
   have hc:aT (C1 c G' lk' w) (cv n (dS ks ds)) (oB ks l):=by cases ds<;>exact hc
   obtain⟨q1,q2⟩:=hB j i hi
   exact⟨⟨B j,q1,hb.1,q2⟩,tj hS hB hr hb.2 hc⟩
  | [],hb=>cases ds<;>cases hb
 | [],_::_,_,_,_,_,_,_,_,h,_,_=>by simp[cj] at h
 | [],[],_::_,_,_,_,_,_,_,h,_,_=>by simp[cj] at h
 | .d _::_,[],_,_,_,_,_,_,_,h,_,_=>by simp[cj] at h
 | .o _::_,[],_,_,_,_,_,_,_,h,_,_=>by simp[cj] at h
 | .p _::_,[],ds,_,_,_,_,_,_,h,_,_=>by cases ds<;>simp[cj] at h
 | .d _::_,_::_,[],_,_,_,_,_,_,h,_,_=>by simp[cj] at h
 | .o _::_,_::_,[],_,_,_,_,_,_,h,_,_=>by simp[cj] at h
theorem xf{m:List (Nat×Nat)}:∀ {ks:List CK} {cs:List AV} {ds:List TV} {n n':Nat} {r:List AV} {os:List (Nat×aB)},cj m ks cs ds n=some (r,os,n')->os=cd n (dS ks ds)/\n'=n+(dS ks ds).length
 | [],[],[],n,n',r,os,h=>by
  simp only[cj,a8o,a8u] at h
  obtain⟨rfl,rfl,rfl⟩:=h
  exact⟨rfl,rfl⟩
 | .d τ::ks,c0::cs,v::ds,n,n',r,os,h=>by
  simp only[cj] at h
  split at h
  case h_2=>cases h
  case h_1 hv =>
  split at h
  case h_2=>cases h
  case h_1 r1 X7 n1 hr =>
  simp only[a8o,a8u] at h
  obtain⟨rfl,rfl,rfl⟩:=h
  obtain⟨e1,e2⟩:=xf hr
  exact⟨e1,e2⟩
 | .o τ::ks,c0::cs,v::ds,n,n',r,os,h=>by
  simp only[cj] at h
  split at h
  case h_2=>cases h
  case h_1 hv =>
  split at h
  case h_2=>cases h
  case h_1 r1 X7 n1 hr =>
  simp only[a8o,a8u] at h
  obtain⟨rfl,rfl,rfl⟩:=h
  obtain⟨e1,e2⟩:=xf hr
  exact⟨by rw[e1];rfl,by rw[e2];simp[dS];omega⟩
 | .p j::ks,c0::cs,ds,n,n',r,os,h=>by
  simp only[cj] at h
  split at h
  case h_2=>cases h
  case h_1 id =>
  split at h
  case h_2=>cases h
  case h_1 i hi =>
  split at h
  case h_2=>cases h
  case h_1 r1 X7 n1 hbe hr =>
  simp only[a8o,a8u] at h
  obtain⟨rfl,rfl,rfl⟩:=h
  obtain⟨e1,e2⟩:=xf hr
  cases ds<;>exact⟨e1,e2⟩
 | [],_::_,_,_,_,_,_,h=>by simp[cj] at h
 | [],[],_::_,_,_,_,_,h=>by simp[cj] at h
 | .d _::_,[],_,_,_,_,_,h=>by simp[cj] at h
 | .o _::_,[],_,_,_,_,_,h=>by simp[cj] at h
 | .p _::_,[],ds,_,_,_,_,h=>by cases ds<;>simp[cj] at h
 | .d _::_,_::_,[],_,_,_,_,h=>by simp[cj] at h
 | .o _::_,_::_,[],_,_,_,_,h=>by simp[cj] at h
theorem Inv.a3x{s1:ah}(h1:Inv c G s1 a w){S' X:Nat->Prop}{GC:Nat->Option aB}(hk:bN X w w')(hX:∀ b,X b->c.w0.heap.size<=b\/c.X b)(hXS:∀ b,X b->¬ G.S b)
  (hS:∀ b,G.S b->S' b) (Xx:∀ b,S' b->b<w'.heap.size) (Y3:∀ b,b<w.heap.size->¬ X b->(S' b↔G.S b))
  (oM:∀ id,(GC id=s1.af id/\∀ o b,s1.af id=some o->eV (G.η id)=some b->¬ X b) \/
   ∃ cs dN,s1.af id=some (.box cs)/\GC id=some (.box dN)/\(∀ b,eV (G.η id)=some b->¬ S' b)/\∃ b l t,G.η id = .pointer (some ⟨b,0,none⟩)/\w'.heap[b]?=some (.cells l.toArray t (0,0))/\∀ (G:Gh) (lk:Nat->Option aB),aT (C1 c G lk w') dN l)
  (Fb:∀ id τ xs b,s1.af id=some (.aE τ xs)->b∈G.φ id->¬ X b):bz c ⟨S',G.η,G.φ⟩ s1.sl s1.aC.length GC a w':=by
 have gN:∀ id,fb (s1.af id) (GC id):=λ id=>by
  rcases oM id with ⟨e,_⟩|⟨cs,dN,e1,e2,_⟩
  .rw[e];exact fb.refl _
  .rw[e1,e2];exact⟨λ _=>rfl,(λ e τ xs q=>by cases q),(λ q=>by cases q),λ q=>by cases q⟩
 have cw:∀ b,St c G.S b->w'.heap[b]?=w.heap[b]?:=λ b hb=>by
  rcases hb with hb|hb
  .exact hk.block b (h1.ez b hb) λ q=>hXS b q hb
  .exact hk.block b (a8G hb.1 h1.aU.size) λ q=>(hX b q).elim (λ q=>by omega) hb.2.1
 have hold:∀ id o,GC id=some o->∃ o',s1.af id=some o'/\(∀ τ xs,o = .aE τ xs->o' = .aE τ xs):=λ id o ho=>by
  rcases oM id with ⟨e,_⟩|⟨cs,dN,e1,e2,_⟩
  .exact⟨o,by rw[<-e];exact ho,λ τ xs q=>q⟩
  .rw[e2] at ho
   simp only[a8o] at ho
   exact⟨_,e1,λ τ xs q=>by rw[q] at ho;cases ho⟩
 have Fa:∀ id τ xs,GC id=some (.aE τ xs)->s1.af id=some (.aE τ xs):=λ id τ xs ht=>by
  obtain⟨o',q1,q2⟩:=hold id _ ht
  rw[q1,q2 τ xs rfl]
 exact {
  defers:=h1.defers,size:=h1.size
  aU:=h1.aU.trans hk λ i hi hy=>(hX i hy).elim (λ q=>by omega) id
  oE:=h1.oE
  fE:=λ b hb hx=>(Y3 b (a8G hb h1.aU.size) λ q=>(hX b q).elim (λ q=>by omega) hx).trans (h1.fE b hb hx)
  sX:=λ b hb=>hS b (h1.sX b hb)
  ez:=Xx
  aC:=λ i=>(h1.aC i).mono (λ id _=>⟨gN id,rfl⟩) hS cw
  aK:=λ id o ho=>by
   rcases oM id with ⟨e,e'⟩|⟨cs,dN,e1,e2,_,b,l,t,e3,e4,e5⟩
   .rw[e] at ho
    exact (h1.aK id o ho).mono rfl (λ b hb=>hk.block b (h1.place id o b ho hb).2.2 (e' o b ho hb)) (λ j _=>⟨gN j,rfl⟩) hS cw
   .rw[e2] at ho
    simp only[a8o] at ho
    subst ho
    exact⟨b,l,t,e3,e4,e5 _ _⟩
  place:=λ id o b ho hb=>by
   obtain⟨o',q1,_⟩:=hold id o ho
   obtain⟨p1,p2,p3⟩:=h1.place id o' b q1 hb
   refine⟨p1,?_,a8G p3 hk.size⟩
   rcases oM id with ⟨e,e'⟩|⟨cs,dN,e1,e2,e3,_⟩
   .exact λ q=>p2 ((Y3 b p3 (e' o' b q1 hb)).1 q)
   .exact e3 b hb
  apart:=λ id dO o o' b ho cQ hb cD=>by
   obtain⟨p,q1,_⟩:=hold id o ho
   obtain⟨p',q2,_⟩:=hold dO o' cQ
   exact h1.apart id dO p p' b q1 q2 hb cD
  bc:={
   tr:=λ id τ xs ht=>(h1.bc.tr id τ xs (Fa id τ xs ht)).aU λ b hb=>hk.block b (h1.bc.pl id τ xs b (Fa id τ xs ht) hb).2.2.1 (Fb id τ xs b (Fa id τ xs ht) hb)
   nd:=λ id τ xs ht=>h1.bc.nd id τ xs (Fa id τ xs ht)
   pl:=λ id τ xs b ht hb=>by
    obtain⟨p1,p2,p3,p4⟩:=h1.bc.pl id τ xs b (Fa id τ xs ht) hb
    refine⟨p1,λ q=>p2 ((Y3 b p3 (Fb id τ xs b (Fa id τ xs ht) hb)).1 q),a8G p3 hk.size,λ i o ho=>?_⟩
    obtain⟨o',q1,_⟩:=hold i o ho
    exact p4 i o' q1
   ap:=λ id dO τ bo xs dh b ht Un=>h1.bc.ap id dO τ bo xs dh b (Fa id τ xs ht) (Fa dO bo dh Un) }
  root:=λ id v hr ht=>h1.root id v hr (by
   match hl:GC id,ht with
   | some (.aE τ xs),_=>rw[Fa id τ xs hl];rfl)
  lj:=h1.lj
  dQ:=λ id v hr ht=>h1.dQ id v hr (by
   rcases oM id with ⟨e,_⟩|⟨cs,dN,e1,e2,_⟩
   .rw[<-e];exact ht
   .rw[e1];rfl)
  gu:=h1.gu }
theorem bz.a7s{sl:Nat->AV}{n:Nat}{lk lk2:Nat->Option aB}(h:bz c G sl n lk a w)(oM:∀ id,lk2 id=lk id\/∃ cs dN,lk id=some (.box cs)/\lk2 id=some (.box dN)/\∃ b l t,G.η id = .pointer (some ⟨b,0,none⟩)/\w.heap[b]?=some (.cells l.toArray t (0,0))/\aT (C1 c G lk2 w) dN l) :
  bz c G sl n lk2 a w:=by
 have gN:∀ id,fb (lk id) (lk2 id):=λ id=>by
  rcases oM id with e|⟨cs,dN,e1,e2,_⟩
  .rw[e];exact fb.refl _
  .rw[e1,e2];exact⟨λ _=>rfl,(λ e τ xs q=>by cases q),(λ q=>by cases q),λ q=>by cases q⟩
 have hold:∀ id o,lk2 id=some o->∃ o',lk id=some o'/\(∀ τ xs,o = .aE τ xs->o' = .aE τ xs):=λ id o ho=>by
  rcases oM id with e|⟨cs,dN,e1,e2,_⟩
  .exact⟨o,by rw[<-e];exact ho,λ τ xs q=>q⟩
  .rw[e2] at ho
   simp only[a8o] at ho
   exact⟨_,e1,λ τ xs q=>by rw[q] at ho;cases ho⟩
 have Fa:∀ id τ xs,lk2 id=some (.aE τ xs)->lk id=some (.aE τ xs):=λ id τ xs ht=>by
  obtain⟨o',q1,q2⟩:=hold id _ ht
  rw[q1,q2 τ xs rfl]
 exact {
  defers:=h.defers,size:=h.size,aU:=h.aU,oE:=h.oE,fE:=h.fE,sX:=h.sX,ez:=h.ez
  aC:=λ i=>(h.aC i).mono (λ id _=>⟨gN id,rfl⟩) (λ _ q=>q) (λ _ _=>rfl)
  aK:=λ id o ho=>by
   rcases oM id with e|⟨cs,dN,e1,e2,b,l,t,e3,e4,e5⟩
   .rw[e] at ho
    exact (h.aK id o ho).mono rfl (λ _ _=>rfl) (λ j _=>⟨gN j,rfl⟩) (λ _ q=>q) (λ _ _=>rfl)
   .rw[e2] at ho
    simp only[a8o] at ho
    subst ho
    exact⟨b,l,t,e3,e4,e5⟩
  place:=λ id o b ho hb=>by
   obtain⟨o',q1,_⟩:=hold id o ho
   exact h.place id o' b q1 hb
  apart:=λ id dO o o' b ho cQ hb cD=>by
   obtain⟨p,q1,_⟩:=hold id o ho
   obtain⟨p',q2,_⟩:=hold dO o' cQ
   exact h.apart id dO p p' b q1 q2 hb cD
  bc:={
   tr:=λ id τ xs ht=>h.bc.tr id τ xs (Fa id τ xs ht)
   nd:=λ id τ xs ht=>h.bc.nd id τ xs (Fa id τ xs ht)
   pl:=λ id τ xs b ht hb=>by
    obtain⟨p1,p2,p3,p4⟩:=h.bc.pl id τ xs b (Fa id τ xs ht) hb
    refine⟨p1,p2,p3,λ i o ho=>?_⟩
    obtain⟨o',q1,_⟩:=hold i o ho
    exact p4 i o' q1
   ap:=λ id dO τ bo xs dh b ht Un=>h.bc.ap id dO τ bo xs dh b (Fa id τ xs ht) (Fa dO bo dh Un) }
  root:=λ id v hr ht=>h.root id v hr (by
   match hl:lk2 id,ht with
   | some (.aE τ xs),_=>rw[Fa id τ xs hl];rfl)
  lj:=h.lj
  dQ:=λ id v hr ht=>h.dQ id v hr (by
   rcases oM id with e|⟨cs,dN,e1,e2,_⟩
   .rw[<-e];exact ht
   .rw[e1];rfl)
  gu:=h.gu }
theorem GK{m:List (Nat×Nat)}{S:Nat->Prop}{B:Nat->Nat}{lk:Nat->Option aB}:∀ {sh:List (List CK)} {k:Nat} {ca:List (List TV)} {n:Nat} {bs ts:List (Nat×aB)} {fp:List Nat},ur lk m sh k ca n=some (bs,ts)->ll w S B k sh ca fp ->
  ∃ wP xs,ts=cd n wP/\di w (wP.map TV.aR) xs fp/\(∀ u∈wP,u.τ.agg=false) /\
   (∀ j,k<=j->j<k+sh.length->∃ (id:Nat) (dN:List AV) (l:List Value) (t:TypeId),af m j=some id/\(id,aB.box dN)∈bs/\w.heap[B j]?=some (.cells l.toArray t (0,0))/\l.length=dN.length) /\
   (∀ p∈bs,∃ (j:Nat) (dN:List AV) (l:List Value) (t:TypeId),k<=j/\j<k+sh.length/\af m j=some p.1/\p.2 = .box dN/\w.heap[B j]?=some (.cells l.toArray t (0,0))/\l.length=dN.length /\
    ∀ (G':Gh) (lk':Nat->Option aB),(∀ b,S b->G'.S b)->(∀ j id,af m j=some id->G'.η id = .pointer (some ⟨B j,0,none⟩)/\iy (lk' id)=true)->aT (C1 c G' lk' w) (cv n wP) xs->aT (C1 c G' lk' w) dN l)
 | [],k,[],n,bs,ts,fp,h,hb=>by
  simp only[ur,a8o,a8u] at h
  obtain⟨rfl,rfl⟩:=h
  exact⟨[],[],rfl,⟨rfl,hb⟩,by simp,λ j h1 h2=>by simp at h2;omega,by simp⟩
 | ks::sh,k,ds::ca,n,bs,ts,fp,h,hb=>by
  simp only[ur] at h
  split at h
  case h_2=>cases h
  case h_1 id bf =>
  split at h
  case h_2=>cases h
  case h_1 cs oq =>
  split at h
  case h_2=>cases h
  case h_1 r os n1 hr =>
  split at h
  case h_2=>cases h
  case h_1 bs1 ts1 Zg =>
  simp only[a8o,a8u] at h
  obtain⟨rfl,rfl⟩:=h
  obtain⟨l,t,f1,f2,rfl,hw,hB,hbs⟩:=hb
  obtain⟨e1,e2⟩:=xf hr
  obtain⟨wP,xs,q1,q2,q3,q4,q5⟩:=GK Zg hbs
  obtain⟨o1,o2,o3⟩:=hB.wP
  have zV:∀ {G':Gh} {lk':Nat->Option aB},aT (C1 c G' lk' w) (cv n (dS ks ds++wP)) (oB ks l++xs)->aT (C1 c G' lk' w) (cv n (dS ks ds)) (oB ks l)/\aT (C1 c G' lk' w) (cv n1 wP) xs:=λ {G' lk'} q=>by
   rw[uy,<-e2] at q
   have hl:(cv n (dS ks ds)).length=(oB ks l).length:=by
    rw[<-o3]
    have:∀ (us:List TV) (n:Nat),(cv n us).length=us.length:=λ us=>by
     induction us with
     | nil=>intro n;rfl
     | cons u us ih=>intro n;simp[cv,ih]
    exact this _ _
   have h1:=q.take (cv n (dS ks ds)).length
   have h2:=q.drop (cv n (dS ks ds)).length
   rw[b0D,hl,b0D] at h1
   rw[b0B,hl,b0B] at h2
   exact⟨h1,h2⟩
  have hrl:l.length=r.length:=by
   have:∀ {ks:List CK} {cs:List AV} {ds:List TV} {n n':Nat} {r:List AV} {os:List (Nat×aB)} {l:List Value} {fp:List Nat},cj m ks cs ds n=some (r,os,n')->oF w S B ks ds l fp->l.length=r.length:=by
    intro ks
    induction ks with
    | nil =>
     intro cs ds n n' r os l fp h hb
     cases cs<;>cases ds<;>simp[cj] at h
     obtain⟨rfl,_⟩:=h
     cases l with
     | nil=>rfl
     | cons x l=>cases hb
    | cons k0 ks ih =>
     intro cs ds n n' r os l fp h hb
     cases l with
     | nil=>cases k0<;>cases ds<;>cases hb
     | cons x l =>
      cases k0 with
      | d τ =>
       cases cs with
       | nil=>simp[cj] at h
       | cons c0 cs =>
        cases ds with
        | nil=>cases hb
        | cons v ds =>
         simp only[cj] at h
         split at h
         case h_2=>cases h
         case h_1 hv =>
         split at h
         case h_2=>cases h
         case h_1 r1 X7 n1 hr =>
         simp only[a8o,a8u] at h
         obtain⟨rfl,rfl,rfl⟩:=h
         obtain⟨_,h2⟩:=hb
         simp[ih hr h2]
      | o τ =>
       cases cs with
       | nil=>simp[cj] at h
       | cons c0 cs =>
        cases ds with
        | nil=>cases hb
        | cons v ds =>
         simp only[cj] at h
         split at h
         case h_2=>cases h
         case h_1 hv =>
         split at h
         case h_2=>cases h
         case h_1 r1 X7 n1 hr =>
         simp only[a8o,a8u] at h
         obtain⟨rfl,rfl,rfl⟩:=h
         obtain⟨_,_,_,_,h2⟩:=hb
         simp[ih hr h2]
      | p j =>
       cases cs with
       | nil=>cases ds<;>simp[cj] at h
       | cons c0 cs =>
        have hb:x = .pointer (some ⟨B j,0,none⟩)/\oF w S B ks ds l fp:=by cases ds<;>exact hb
        simp only[cj] at h
        split at h
        case h_2=>cases h
        case h_1 id =>
        split at h
        case h_2=>cases h
        case h_1 i hi =>
        split at h
        case h_2=>cases h
        case h_1 r1 X7 n1 hbe hr =>
        simp only[a8o,a8u] at h
        obtain⟨rfl,rfl,rfl⟩:=h
        simp[ih hr hb.2]
   exact this hr hB
  refine⟨dS ks ds++wP,oB ks l++xs,by rw[ER,e1,q1,e2],by rw[b0n];exact o1.append q2,λ u hu=>(a8t.1 hu).elim (o2 u) (q3 u),λ j h1 h2=>?_,λ p hp=>?_⟩
  .by_cases hj:j=k
   .subst hj
    exact⟨id,r,l,t,bf,b0Q ..,hw,hrl⟩
   .obtain⟨dO,dN,l',t',g1,g2,g3,g4⟩:=q4 j (by omega) (by simp at h2;omega)
    exact⟨dO,dN,l',t',g1,b0d _ g2,g3,g4⟩
  .rcases a8I.1 hp with rfl|hp
   .exact⟨k,r,l,t,a9i _,by simp,bf,rfl,hw,hrl,λ G' lk' h1 h2 h3=>tj h1 h2 hr hB (zV h3).1⟩
   .obtain⟨j,dN,l',t',g1,g2,g3,g4,g5,g7,g6⟩:=q5 p hp
    exact⟨j,dN,l',t',by omega,by simp;omega,g3,g4,g5,g7,λ G' lk' h1 h2 h3=>g6 G' lk' h1 h2 (zV h3).2⟩
 | [],_,_::_,_,_,_,_,h,_=>by simp[ur] at h
 | _::_,_,[],_,_,_,_,h,_=>by simp[ur] at h
theorem vu{α:Type}:∀ {l:List (Nat×α)} {k:Nat},(∀ p∈l,p.1≠k)->af l k=none
 | [],k,_=>rfl
 | (j,o)::l,k,h=>by
  rw[r7,a8y (λ e=>h (j,o) (by simp) e.symm)]
  exact vu λ p hp=>h p (by simp[hp])
theorem GD:∀ (ids:List Nat) (l:List (Nat×aB)) (i:Nat),af (iW ids l) i=if i∈ids then none else af l i
 | [],l,i=>by simp[iW]
 | id::r,l,i=>by
  rw[iW,GD r,eZ]
  by_cases h1:i∈r
  .simp[h1]
  .by_cases h2:i=id
   .simp[h1,h2]
   .simp[h1,h2]
theorem Hy{m:List (Nat×Nat)}(h2:(m.map (·.2)).Nodup){j k id:Nat}(hj:af m j=some id)(hk:af m k=some id):j=k:=by
 have e1:=gJ hj
 have e2:=gJ hk
 have:(j,id)=(k,id):=by
  clear hj hk
  induction m with
  | nil=>cases e1
  | cons p m ih =>
   simp only[a9k,a9j] at h2
   rcases a8I.1 e1 with q1|e1
   .rcases a8I.1 e2 with q2|e2
    .rw[q1,q2]
    .exact absurd (a8A.2 ⟨(k,id),e2,by rw[<-q1]⟩) h2.1
   .rcases a8I.1 e2 with q2|e2
    .exact absurd (a8A.2 ⟨(j,id),e1,by rw[<-q2]⟩) h2.1
    .exact ih h2.2 e1 e2
 exact congrArg Prod.fst this
theorem A3{m:List (Nat×Nat)}{k id:Nat}(h:af m k=some id):id∈m.map (·.2):=a8A.2 ⟨_,gJ h,rfl⟩
theorem a0Y{m:List (Nat×Nat)}{n:Nat}(h1:(m.map (·.1)).Nodup)(hl:m.length=n)(hk:∀ k,k<n->∃ id,af m k=some id):∀ p∈m,p.1<n:=by
 have Jc:List.range n ⊆ m.map (·.1):=λ k oS=>by
  obtain⟨id,q⟩:=hk k (b0E.1 oS)
  exact a8A.2 ⟨_,gJ q,rfl⟩
 have Om:(m.map (·.1)) ⊆ List.range n:=by
  intro x hx
  refine b1o λ hn=>?_
  have h3:(x::List.range n).Nodup:=a9j.2 ⟨hn,b1x⟩
  have h4:(x::List.range n) ⊆ m.map (·.1):=λ y hy=>(a8I.1 hy).elim (λ e=>e ▸ hx) (λ hy=>Jc hy)
  have:=b0R h3 h4
  simp at this
  omega
 exact λ p hp=>b0E.1 (Om (a8A.2 ⟨p,hp,rfl⟩))
theorem ZK(hE:bP c.P c.E)(h:Inv c G s a w){o:Oper}{vc:Vc}{s':ah}(hq:WQ c.E s o=some (vc,s'))(fk:vc.ok){Q:Exit->Act->World->Prop} :
  o.wp c.P a w (λ a' w'=>∃ G',Inv c G' s' a' w') Q:=by
 unfold WQ at hq
 split at hq
 case h_2=>cases hq
 case h_1 d hd =>
 split at hq
 case h_2=>cases hq
 case h_1 cl bE =>
 split at hq
 case h_2=>cases hq
 case h_1 f jQ =>
 split at hq
 case h_2=>cases hq
 case h_1 sk hsk =>
 split at hq
 case h_2=>cases hq
 case h_1 m0 hm0 =>
 split at hq
 case h_2=>cases hq
 case h_1 ca ids m hm =>
 split at hq
 case h_2=>cases hq
 case h_1 a4H =>
 split at hq
 case h_2=>cases hq
 case h_1 Z9 has =>
 split at hq
 case h_2=>cases hq
 case h_1 pre res gf hc =>
 split at hq
 case h_2=>cases hq
 case h_1 bs ts tE =>
 split at hq
 case h_2=>cases hq
 case h_1 Iv =>
 simp only[a8o,a8u] at hq
 obtain⟨rfl,rfl⟩:=hq
 simp only[a8r] at a4H
 obtain⟨Ze,hn2,hn3,hn4⟩:=a4H
 have Ze:=dA Ze
 have hn2:=dA hn2
 have hn3:=dA hn3
 have hn4:=a8s hn4
 simp only[a8r,a9a] at Iv
 have vP:∀ p∈bx (bY d) res++ts,(ids.foldl ah.gone s).af p.1=none:=λ p hp=>by simpa using Iv.1 p hp
 have tD:=dA Iv.2
 obtain⟨vO,rp⟩:=hE.Vz f sk Z9 ca pre res gf hsk hc fk
 obtain⟨_,Y5⟩:=xC hm0
 obtain⟨hx0,Wf,fa,Xw,XD,a6U⟩:=wx h hm Ze
 have Xw:=Xw m (oG.refl m)
 have Y5:∀ (i k:Nat),sk.ps[i]?=some (some k)->∃ id,(cl.args.toList.map s.eval)[i]?=some (AV.ptr id 0)/\af m k=some id:=λ i k q=>by
  obtain⟨id,q1,q2⟩:=Y5 i k q
  exact⟨id,q1,hx0 k id q2⟩
 have h1:Inv c G (ids.foldl ah.gone s) a w:=xK ids h
 have hF:∀ b,b∈fa->xu c G (ids.foldl ah.gone s).af w b:=λ b hb=>L9 h (a6U b hb)
 have Dp:∀ k,k<sk.sh.length->∃ (id:Nat) (cs:List AV),af m k=some id/\(ids.foldl ah.gone s).af id=some (.box cs):=λ k hk=>by
  obtain⟨id,cs,q1,q2⟩:=Wf k (Nat.zero_le _) (by simpa using hk)
  refine⟨id,?_⟩
  have bf:id∉ids:=λ hi=>by
   have:∀ {sh:List (List CK)} {k:Nat} {m m':List (Nat×Nat)} {ca:List (List TV)} {ids:List Nat},lg s.af sh k m=some (ca,ids,m')->∀ i∈ids,∀ cs,s.af i≠some (.box cs):=by
    have vN:∀ {ks:List CK} {cs:List AV} {m m':List (Nat×Nat)} {ds:List TV} {ids:List Nat},dk s.af ks cs m=some (ds,ids,m')->∀ i∈ids,∀ cs,s.af i≠some (.box cs):=by
     intro ks
     induction ks with
     | nil =>
      intro cs m m' ds ids ht
      cases cs<;>simp[dk] at ht
      obtain⟨_,rfl,_⟩:=ht
      simp
     | cons k0 ks ih =>
      intro cs m m' ds ids ht
      cases cs with
      | nil=>cases k0<;>simp[dk] at ht
      | cons v cs =>
       cases k0 with
       | d τ =>
        simp only[dk] at ht
        split at ht
        case h_2=>cases ht
        case h_1 y hy Ee =>
        split at ht
        case h_2=>cases ht
        case h_1 ds1 XQ m1 hr =>
        simp only[a8o,a8u] at ht
        obtain⟨_,rfl,_⟩:=ht
        exact ih hr
       | o τ =>
        simp only[dk] at ht
        split at ht
        case h_2=>cases ht
        case h_1 y i hy Ee =>
        split at ht
        case h_2=>cases ht
        case h_1 ds1 XQ m1 hr =>
        simp only[a8o,a8u] at ht
        obtain⟨_,rfl,_⟩:=ht
        intro j hj VX
        rcases a8t.1 hj with hj|hj
        .unfold fZ at hy
         split at hy
         .split at hy
          .simp only[a8o,a8u] at hy
           obtain⟨_,rfl⟩:=hy
           cases hj
          .cases hy
         .split at hy
          .simp only[a8o,a8u] at hy
           obtain⟨_,rfl⟩:=hy
           cases hj
          .cases hy
         .split at hy
          .rename_i hl
           split at hy
           .simp only[a8o,a8u] at hy
            obtain⟨_,rfl⟩:=hy
            simp only[a9q] at hj
            subst hj
            rw[hl]
            simp
           .cases hy
          .cases hy
         .split at hy
          .rename_i hl
           split at hy
           .simp only[a8o,a8u] at hy
            obtain⟨_,rfl⟩:=hy
            simp only[a9q] at hj
            subst hj
            rw[hl]
            simp
           .cases hy
          .cases hy
         .cases hy
        .exact ih hr j hj VX
       | p j =>
        simp only[dk] at ht
        split at ht
        case h_2=>cases ht
        case h_1 id =>
        split at ht
        .split at ht
         .exact ih ht
         .cases ht
        .exact ih ht
    intro sh
    induction sh with
    | nil =>
     intro k m m' ca ids ht
     simp only[lg,a8o,a8u] at ht
     obtain⟨_,rfl,_⟩:=ht
     simp
    | cons ks sh ih =>
     intro k m m' ca ids ht
     simp only[lg] at ht
     split at ht
     case h_2=>cases ht
     case h_1 id bf =>
     split at ht
     case h_2=>cases ht
     case h_1 cs oq =>
     split at ht
     case h_2=>cases ht
     case h_1 ds i m1 hr =>
     split at ht
     case h_2=>cases ht
     case h_1 a6z XQ m2 Zg =>
     simp only[a8o,a8u] at ht
     obtain⟨_,rfl,_⟩:=ht
     intro j hj VX
     rcases a8t.1 hj with hj|hj
     .exact vN hr j hj VX
     .exact ih Zg j hj VX
   exact this hm id hi cs q2
  have:∀ (ids:List Nat) (s:ah) (cs:List AV),id∉ids->s.af id=some (.box cs)->∃ dN,(ids.foldl ah.gone s).af id=some (.box dN):=by
   intro ids
   induction ids with
   | nil=>intro s cs _ hs;exact⟨cs,hs⟩
   | cons i ids ih =>
    intro s cs hi hs
    have fG:id≠i:=λ e=>hi (by simp[e])
    refine ih (s.gone i) (cs.map (AV.kill i)) (λ q=>hi (by simp[q])) ?_
    rw[DA,a8y fG,hs]
    rfl
  obtain⟨dN,q3⟩:=this ids s cs bf q2
  exact⟨dN,q1,q3⟩
 generalize XN:ids.foldl ah.gone s=s1 at *
 have iM:∀ k id,af m k=some id->k<sk.sh.length->G.η id = .pointer (some ⟨pG G m k,0,none⟩)/\eV (G.η id)=some (pG G m k):=λ k id hk bS=>by
  obtain⟨dO,cs,q1,q2⟩:=Dp k bS
  rw[hk] at q1
  simp only[a8o] at q1
  subst q1
  obtain⟨b,l,t,k1,_⟩:=h1.aK id _ q2
  have:pG G m k=b:=by
   simp only[pG,hk,k1]
   rfl
  rw[this,k1]
  exact⟨rfl,rfl⟩
 have nB:=a0Y hn2 hn4 (λ k hk=>by obtain⟨id,_,q,_⟩:=Dp k hk;exact⟨id,q⟩)
 have a2w:∀ id,id∈m.map (·.2)->∃ k cs,k<sk.sh.length/\af m k=some id/\s1.af id=some (.box cs):=λ id bf=>by
  obtain⟨⟨k,dO⟩,hp,rfl⟩:=a8A.1 bf
  have hk:=nB _ hp
  have hl:=xc hn2 hp
  obtain⟨id2,cs,q1,q2⟩:=Dp k hk
  rw[hl] at q1
  simp only[a8o] at q1
  subst q1
  exact⟨k,cs,hk,hl,q2⟩
 have Mu:∀ j k,j<sk.sh.length->k<sk.sh.length->pG G m j=pG G m k->j=k:=λ j k hj hk e=>by
  obtain⟨idj,csj,j1,j2⟩:=Dp j hj
  obtain⟨idk,csk,k1,k2⟩:=Dp k hk
  have:=h1.apart idj idk _ _ (pG G m j) j2 k2 (iM j idj j1 hj).2 (by rw[e];exact (iM k idk k1 hk).2)
  subst this
  exact Hy hn3 j1 k1
 have Z8:∀ k,k<sk.sh.length->(c.w0.heap.size<=pG G m k\/c.X (pG G m k))/\¬ G.S (pG G m k)/\pG G m k<w.heap.size:=λ k hk=>by
  obtain⟨id,cs,k1,k2⟩:=Dp k hk
  exact h1.place id _ _ k2 (iM k id k1 hk).2
 have a6T:∀ b∈fa,∀ k,k<sk.sh.length->pG G m k≠b:=λ b hb k hk e=>by
  obtain⟨id,cs,k1,k2⟩:=Dp k hk
  exact (hF b hb).2.2.2.1 id _ k2 (by rw[<-e];exact (iM k id k1 hk).2)
 have hXo:∀ b,BX sk.sh.length (pG G m) fa b->(c.w0.heap.size<=b\/c.X b)/\¬ G.S b:=λ b hb=>by
  rcases hb with hb|⟨k,hk,rfl⟩
  .exact⟨(hF b hb).1,(hF b hb).2.1⟩
  .exact⟨(Z8 k hk).1,(Z8 k hk).2.1⟩
 have Sx:∀ b,BX sk.sh.length (pG G m) fa b->¬ St c G.S b:=λ b hb q=>by
  obtain⟨q1,q2⟩:=hXo b hb
  rcases q with q|⟨q,q3,_⟩
  .exact q2 q
  .exact q1.elim (λ q=>by omega) q3
 have Gc:∀ id o b,id∉m.map (·.2)->s1.af id=some o->eV (G.η id)=some b->¬ BX sk.sh.length (pG G m) fa b:=λ id o b bf ho hb q=>by
  rcases q with q|⟨k,hk,rfl⟩
  .exact (hF b q).2.2.2.1 id _ ho hb
  .obtain⟨dO,cs,k1,k2⟩:=Dp k hk
   have:=h1.apart id dO _ _ _ ho k2 hb (iM k dO k1 hk).2
   subst this
   exact bf (A3 k1)
 have a6H:∀ id τ xs b,s1.af id=some (.aE τ xs)->b∈G.φ id->¬ BX sk.sh.length (pG G m) fa b:=λ id τ xs b ht hb q=>by
  rcases q with q|⟨k,hk,rfl⟩
  .exact (hF b q).2.2.2.2 id τ xs ht hb
  .obtain⟨dO,cs,k1,k2⟩:=Dp k hk
   exact (h1.bc.pl id τ xs _ ht hb).2.2.2 dO _ k2 (iM k dO k1 hk).2
 have fB:=G8 hE h1 (mf:=m) Sx (λ id cs b ho hb=>Gc id _ b (si ho).2.1 (si ho).1 hb) (lk0:=s.af) has (aT.rj (bC h1) cl.args.toList) (aT.rj (bC h) cl.args.toList) Y5
 unfold Oper.wp
 rw[mN bE jQ rfl vO]
 simp only[Oper.upon]
 refine (rp w G.S (pG G m) _ fa h1.sOk Xw XD (λ b hb=>⟨(hF b hb).2.2.1,(hF b hb).2.1,a6T b hb⟩) (λ k hk=>⟨(Z8 k hk).2.2,(Z8 k hk).2.1⟩) Mu fB).mono ?_
 rintro e w' ⟨x,S',fp,L4,rfl,hk,hS1,hS2,hS3,hO,hB',dr,u6,hBS⟩
 obtain⟨wP,xs,e1,e2,e3,e4,e5⟩:=GK tE hB'
 let GC:Nat->Option aB:=λ i=>match af bs i with
  | some (.box cs)=>some (.box (List.replicate cs.length .any))
  | _=>s1.af i
 have Wg:∀ id,id∈m.map (·.2)->∃ (k:Nat) (dN:List AV),k<sk.sh.length/\af m k=some id/\af bs id=some (.box dN)/\∃ (l:List Value) (t:TypeId),w'.heap[pG G m k]?=some (.cells l.toArray t (0,0))/\l.length=dN.length:=λ id bf=>by
  obtain⟨k,cs,k1,k2,k3⟩:=a2w id bf
  obtain⟨dO,dN,l,t,g1,g2,g3,g4⟩:=e4 k (Nat.zero_le _) (by simpa using k1)
  rw[k2] at g1
  simp only[a8o] at g1
  subst g1
  have cG:∃ o,af bs id=some o:=by
   cases hl:af bs id with
   | some o=>exact⟨o,rfl⟩
   | none =>
    exfalso
    have:∀ {l:List (Nat×aB)} {k:Nat},af l k=none->∀ p∈l,p.1≠k:=by
     intro l
     induction l with
     | nil=>intro k _ p hp;cases hp
     | cons q l ih =>
      intro k hq p hp
      obtain⟨j,o⟩:=q
      rw[r7] at hq
      split at hq
      .cases hq
      .rename_i fG
       rcases a8I.1 hp with rfl|hp
       .exact λ e=>fG e.symm
       .exact ih hq p hp
    exact this hl _ g2 rfl
  obtain⟨o,ho⟩:=cG
  obtain⟨j,VX,l2,t2,_,j2,j3,j4,j5,j6,_⟩:=e5 _ (gJ ho)
  have:j=k:=Hy hn3 j3 k2
  subst this
  simp only at j4
  subst j4
  exact⟨j,VX,k1,k2,ho,l2,t2,j5,j6⟩
 have a4G:∀ id,id∉m.map (·.2)->af bs id=none:=λ id bf=>vu λ p hp e=>by
  obtain⟨j,_,_,_,_,_,j3,_⟩:=e5 p hp
  exact bf (e ▸ A3 j3)
 have Ve:∀ id,id∉m.map (·.2)->GC id=s1.af id:=λ id bf=>by simp only[GC,a4G id bf]
 have a2u:∀ id k dN,af m k=some id->af bs id=some (.box dN)->GC id=some (.box (List.replicate dN.length .any)):=λ id k dN _ hb=>by simp only[GC,hb]
 have hA:bz c ⟨S',G.η,G.φ⟩ s1.sl s1.aC.length GC a w':=by
  refine Inv.a3x h1 (X:=BX sk.sh.length (pG G m) fa) hk (λ b hb=>(hXo b hb).1) (λ b hb=>(hXo b hb).2) hS1 hS2 hS3 (λ id=>?_) a6H
  by_cases bf:id∈m.map (·.2)
  .obtain⟨k,dN,q1,q2,q3,l,t,q4,q5⟩:=Wg id bf
   obtain⟨_,cs,_,_,q6⟩:=a2w id bf
   obtain⟨g1,g2⟩:=iM k id q2 q1
   refine .inr ⟨cs,_,q6,a2u id k dN q2 q3,λ b hb=>?_,pG G m k,l,t,g1,q4,λ G' lk'=>?_⟩
   .rw[g2] at hb
    simp only[a8o] at hb
    subst hb
    exact hBS k q1
   .have:∀ (l:List Value),aT (C1 c G' lk' w') (List.replicate l.length .any) l:=λ l=>by
     induction l with
     | nil=>exact trivial
     | cons x l ih=>exact⟨trivial,ih⟩
    rw[<-q5]
    exact this l
  .exact .inl ⟨Ve id bf,λ o b ho hb=>Gc id o b bf ho hb⟩
 have a2z:∀ p∈bx (bY d) res++ts,p.1∉m.map (·.2):=λ p hp bf=>by
  obtain⟨_,cs,_,_,q⟩:=a2w p.1 bf
  rw[vP p hp] at q
  cases q
 rw[a8S] at dr
 obtain⟨nd1,nd2,nd3⟩:=dr
 rw[b0n,a8S] at tD
 obtain⟨dd1,dd2,dd3⟩:=tD
 have hFr:Fr c ⟨S',G.η,G.φ⟩ GC w' (fp++L4):=λ b hb=>by
  obtain⟨q1,q2,q3⟩:=u6 b hb
  have xN:∀ i o,GC i=some o->eV (G.η i)≠some b:=λ i o cE e=>by
   by_cases bf:i∈m.map (·.2)
   .obtain⟨k,dN,g1,g2,_⟩:=Wg i bf
    rw[(iM k i g2 g1).2] at e
    simp only[a8o] at e
    exact q3 k g1 e
   .rw[Ve i bf] at cE
    rcases q1 with q1|⟨q1,_⟩
    .exact (hF b q1).2.2.2.1 i o cE e
    .have:=(h1.place i o b cE e).2.2;omega
  have hbt:∀ j τ zs,GC j=some (.aE τ zs)->b∉G.φ j:=λ j τ zs hj rn=>by
   by_cases bf:j∈m.map (·.2)
   .obtain⟨k,dN,g1,g2,g3,_⟩:=Wg j bf
    rw[a2u j k dN g2 g3] at hj
    cases hj
   .rw[Ve j bf] at hj
    rcases q1 with q1|⟨q1,_⟩
    .exact (hF b q1).2.2.2.2 j τ zs hj rn
    .have:=(h1.bc.pl j τ zs b hj rn).2.2.1;omega
  rcases q1 with q1|⟨q1,q1'⟩
  .exact⟨(hF b q1).1,q2,a8G (hF b q1).2.2.1 hk.size,xN,hbt⟩
  .exact⟨.inl (b0N h1.aU.size q1),q2,q1',xN,hbt⟩
 have Gb:∀ j,bY d<=j->c.R j=none:=λ j hj=>by
  cases hr:c.R j with
  | none=>rfl
  | some v=>have:=h.lj j v hr;unfold bY at hj;omega
 obtain⟨ys,AX,Uo⟩:=K1 (c:=c) (id:=bY d) hO
 obtain⟨G1,KO,k1,k2,k3,k4,k5⟩:=hA.Lq (id:=bY d) AX nd1 (λ b hb=>hFr b (by simp[hb])) (λ p hp=>by
  rw[Ve p.1 (a2z p (by simp[hp]))]
  exact vP p (by simp[hp])) dd1 Gb
 rw[e1] at dd2 dd3 vP a2z
 obtain⟨G2,lk2,p1,p2,p3,p4,_⟩:=k2.Bv (us:=wP) (cs:=xs) (fp:=L4) (id:=bY d+60) e3 e2 nd2 (k5 L4 (λ b hb=>hFr b (by simp[hb])) λ b hb cD=>nd3 b cD b hb rfl) (λ p hp=>by
  rw[k1 p.1]
  unfold jJ
  rw[vu (l:=bx (bY d) res) λ q hq e=>dd3 q.1 (a8A.2 ⟨q,hq,rfl⟩) p.1 (a8A.2 ⟨p,hp,rfl⟩) e]
  simp only
  rw[Ve p.1 (a2z p (by simp[hp]))]
  exact vP p (by simp[hp])) dd2 (λ j hj=>Gb j (by omega))
 have a7k:VR c G2 lk2 w' (nw (bY d) res) x:=Uo G2 lk2 (k4.imp λ u y _ hy=>hy.ext p3)
 have Cf:=bz.put (d:=some d) p2 a7k
 have a4J:∀ i,ah.af { aC:=s1.aC.set d (nw (bY d) res),aK:=bs++(bx (bY d) res++ts)++iW (m.map (·.2)) s1.aK } i=jJ bs (jJ (bx (bY d) res) (jJ ts (λ i=>if i∈m.map (·.2) then none else s1.af i))) i:=λ i=>by
  show af (bs++(bx (bY d) res++ts)++iW (m.map (·.2)) s1.aK) i=_
  rw[a9r,r6,show af (bx (bY d) res++ts++iW (m.map (·.2)) s1.aK)=jJ (bx (bY d) res) (jJ ts (λ i=>if i∈m.map (·.2) then none else s1.af i)) from funext λ j=>by
   rw[a9r,r6,show af (ts++iW (m.map (·.2)) s1.aK)=jJ ts (λ i=>if i∈m.map (·.2) then none else s1.af i) from funext λ j=>by
    rw[r6,show af (iW (m.map (·.2)) s1.aK)=(λ i=>if i∈m.map (·.2) then none else s1.af i) from funext λ j=>GD _ _ j]]]
 generalize cw:({ aC:=s1.aC.set d (nw (bY d) res),aK:=bs++(bx (bY d) res++ts)++iW (m.map (·.2)) s1.aK }:ah)=s2 at *
 have a6Y:∀ i,lk2 i=jJ ts (jJ (bx (bY d) res) GC) i:=λ i=>by
  rw[p1 i,e1]
  unfold jJ
  rw[k1 i]
  rfl
 have Vg:∀ i,i∉m.map (·.2)->s2.af i=lk2 i:=λ i bf=>by
  rw[a4J i,a6Y i]
  unfold jJ
  rw[a4G i bf,Ve i bf]
  simp only[a8y bf]
  cases hV:af (bx (bY d) res) i with
  | none=>rfl
  | some o =>
   rw[vu (l:=ts) λ q hq e=>dd3 i (a8A.2 ⟨(i,o),gJ hV,rfl⟩) q.1 (a8A.2 ⟨q,by rw[<-e1];exact hq,rfl⟩) e.symm]
 have gG:∀ i,i∈m.map (·.2)->∃ k dN,k<sk.sh.length/\af m k=some i/\af bs i=some (.box dN)/\lk2 i=some (.box (List.replicate dN.length .any))/\s2.af i=some (.box dN)/\G2.η i = .pointer (some ⟨pG G m k,0,none⟩):=λ i bf=>by
  obtain⟨k,dN,q1,q2,q3,_⟩:=Wg i bf
  have hA':=a2u i k dN q2 q3
  obtain⟨r1,r2,_⟩:=(k3.trans p3).old i _ hA'
  refine⟨k,dN,q1,q2,q3,r1,?_,by rw[r2];exact (iM k i q2 q1).1⟩
  rw[a4J i]
  unfold jJ
  rw[q3]
 have gN:∀ i,fb (lk2 i) (s2.af i):=λ i=>by
  by_cases bf:i∈m.map (·.2)
  .obtain⟨k,dN,_,_,_,q4,q5,_⟩:=gG i bf
   rw[q4,q5]
   exact⟨λ _=>rfl,(λ e τ xs q=>by cases q),(λ q=>by cases q),λ q=>by cases q⟩
  .rw[Vg i bf];exact fb.refl _
 have a5A:=bz.a7s (lk2:=s2.af) Cf (λ i=>by
  by_cases bf:i∈m.map (·.2)
  .obtain⟨k,dN,q1,q2,q3,q4,q5,q6⟩:=gG i bf
   obtain⟨j,VX,l,t,_,j2,j3,j4,j5,_,j7⟩:=e5 _ (gJ q3)
   have:j=k:=Hy hn3 j3 q2
   subst this
   simp only[aB.box.injEq] at j4
   subst j4
   refine .inr ⟨_,_,q4,q5,pG G m j,l,t,q6,j5,?_⟩
   refine j7 G2 s2.af (λ b hb=>by rw[p3.S,k3.S];exact hb) (λ j' id Gf=>?_) (p4.imp λ u y _ hy=>hy.mono (λ i _=>⟨gN i,rfl⟩) (λ _ q=>q) (λ _ _=>rfl))
   obtain⟨k',a8j,g1,g2,_,_,g5,g6⟩:=gG id (A3 Gf)
   have:j'=k':=Hy hn3 Gf g2
   subst this
   exact⟨g6,by rw[g5];rfl⟩
  .exact .inl (Vg i bf))
 refine⟨G2,?_⟩
 unfold Inv
 rw[hd,<-cw,show ah.sl { aC:=s1.aC.set d (nw (bY d) res),aK:=bs++(bx (bY d) res++ts)++iW (m.map (·.2)) s1.aK }=mZ s1.aC.length s1.sl (some d) (nw (bY d) res) from tn s1.aC d _ _,
  show ({ aC:=s1.aC.set d (nw (bY d) res),aK:=bs++(bx (bY d) res++ts)++iW (m.map (·.2)) s1.aK }:ah).aC.length=s1.aC.length from by simp,cw]
 exact a5A
end
end Go.Proofs.YtmjfpcajohhbeaaGreatDoor

namespace Go.Proofs.YtmjfpcajohhbeaaGreatDoor
theorem B6(id:Nat)(u:AV):∀ l:List AV,AV.Ss id u l=l.map (AV.Ic id u)
 | []=>rfl
 | v::r=>congrArg _ (B6 id u r)
section
variable {c:Ctx} {G:Gh} {s:ah} {a:Act} {w w':World}
theorem a3e{lk:Nat->Option aB}{id:Nat}{e:TypeId}{τ:Ty}{xs:List τ.den}(ho:OR c G lk w id (.row e τ xs)){S':Nat->Prop}(hS:∀ b,G.S b->S' b)(hb:∀ b,eV (G.η id)=some b->S' b) :
  Rd w S' (Ty.aR (.slice τ) xs) [G.η id]:=by
 obtain⟨l,h1,h2,h3⟩:=ho
 exact Vp h1 h2 h3 hS hb
theorem C1.Ic{lk lk':Nat->Option aB}{id:Nat}{e:TypeId}{τ:Ty}{xs:List τ.den}(bf:lk id=some (.row e τ xs))(ho:OR c G lk w id (.row e τ xs)){S':Nat->Prop}(hS:∀ b,G.S b->S' b)(hb:∀ b,eV (G.η id)=some b->S' b)
  (cG:∀ j,j≠id->fb (lk j) (lk' j)) {v:AV} {x:Value} (h:C1 c G lk w v x):C1 c ⟨S',G.η,G.φ⟩ lk' w (AV.Ic id (.aW ⟨.slice τ,xs⟩) v) x:=by
 have aU:(∀ j,v.refs j=true->j≠id)->C1 c ⟨S',G.η,G.φ⟩ lk' w v x:=λ hr=>h.mono (λ j hj=>⟨cG j (hr j hj),rfl⟩) hS (λ _ _=>rfl)
 cases v with
 | row i =>
  simp only[AV.Ic]
  split
  .rename_i hi
   have hi:=a8s hi
   subst hi
   refine⟨rfl,?_⟩
   rw[h.1]
   exact a3e ho hS hb
  .rename_i hi
   refine aU λ j hj=>?_
   simp only[AV.refs] at hj
   have:=a8s hj
   intro e
   subst this e
   simp at hi
 | eY i k off =>
  simp only[AV.Ic]
  split
  .trivial
  .rename_i hi
   refine aU λ j hj=>?_
   simp only[AV.refs] at hj
   have:=a8s hj
   intro e
   subst this e
   simp at hi
 | ptr i off =>
  refine aU λ j hj=>?_
  simp only[AV.refs] at hj
  have:=a8s hj
  intro e
  subst this e
  obtain⟨b,_,_,h3⟩:=h
  rw[bf] at h3
  cases h3
 | agg cs=>exact h.elim
 | kW cs=>exact h.elim
 | dq f cs=>exact h.elim
 | kI v=>exact aU λ j hj=>by cases hj
 | any=>trivial
 | eG=>exact h
 | aW u=>exact aU λ j hj=>by cases hj
 | nil=>exact aU λ j hj=>by cases hj
 | dn u=>exact aU λ j hj=>by cases hj
 | fn f=>exact aU λ j hj=>by cases hj
 | mp i =>
  refine aU λ j hj=>?_
  simp only[AV.refs] at hj
  have:=a8s hj
  intro e
  subst this e
  have h3:=h.2.1
  rw[bf] at h3
  cases h3
 | aE i =>
  refine aU λ j hj=>?_
  simp only[AV.refs] at hj
  have:=a8s hj
  intro e
  subst this e
  have h1:=h.1
  rw[bf] at h1
  cases h1
 | sub i k o z =>
  refine aU λ j hj=>?_
  simp only[AV.refs] at hj
  have:=a8s hj
  intro e
  subst this e
  have h1:=h.1
  rw[bf] at h1
  cases h1
 | fF i k o z =>
  refine aU λ j hj=>?_
  simp only[AV.refs] at hj
  have:=a8s hj
  intro e
  subst this e
  have h1:=h.1
  rw[bf] at h1
  cases h1
theorem B5(id:Nat)(u:AV):∀ l:List AV,AV.Sr id u l=l.map (AV.E2 id u)
 | []=>rfl
 | v::r=>congrArg _ (B5 id u r)
theorem C1.E2{lk lk':Nat->Option aB}{id:Nat}{τ:Ty}{xs:List τ.den}(bf:lk id=some (.aE τ xs))(hT:lA w (G.η id) τ xs (G.φ id)){S':Nat->Prop}(hS:∀ b,G.S b->S' b)(hb:∀ b∈G.φ id,S' b)
  (cG:∀ j,j≠id->fb (lk j) (lk' j)) {v:AV} {x:Value} (h:C1 c G lk w v x):C1 c ⟨S',G.η,G.φ⟩ lk' w (AV.E2 id (.aW ⟨.slice τ,xs⟩) v) x:=by
 have aU:(∀ j,v.refs j=true->j≠id)->C1 c ⟨S',G.η,G.φ⟩ lk' w v x:=λ hr=>h.mono (λ j hj=>⟨cG j (hr j hj),rfl⟩) hS (λ _ _=>rfl)
 have other:∀ i:Nat,(Nat.beq i id=false\/dw (lk i)=false)->(∀ j,v.refs j=true->Nat.beq i j=true)->C1 c ⟨S',G.η,G.φ⟩ lk' w v x:=λ i hi hr=>aU λ j hj e=>by
  have q:=a8s (hr j hj)
  subst q
  subst e
  rcases hi with hi|hi
  .simp at hi
  .rw[bf] at hi;cases hi
 cases v with
 | aE i =>
  simp only[AV.E2]
  split
  .rename_i hi
   have hi:=a8s hi
   subst hi
   obtain⟨_,l,h2,_⟩:=h
   exact⟨rfl,hT.rd h2 hb⟩
  .rename_i hi
   exact other i (.inl hi) λ j hj=>hj
 | sub i k o z =>
  simp only[AV.E2]
  split
  .trivial
  .rename_i hi
   exact other i (.inl hi) λ j hj=>hj
 | fF i k o z =>
  simp only[AV.E2]
  split
  .trivial
  .rename_i hi
   exact other i (.inl hi) λ j hj=>hj
 | row i=>exact other i (.inr (uR h.2.1)) λ j hj=>hj
 | eY i k off =>
  refine other i (.inr ?_) λ j hj=>hj
  obtain⟨b,n,cap,e,bo,dh,_,h3,_⟩:=h
  rw[h3];rfl
 | ptr i off =>
  refine other i (.inr ?_) λ j hj=>hj
  obtain⟨b,_,_,h3⟩:=h
  match hl:lk i,h3 with
  | some (.box _),_=>rfl
 | mp i=>exact other i (.inr (Jq h.2.1)) λ j hj=>hj
 | agg cs=>exact h.elim
 | kW cs=>exact h.elim
 | dq f cs=>exact h.elim
 | kI v=>exact aU λ j hj=>by cases hj
 | any=>trivial
 | eG=>exact h
 | aW u=>exact aU λ j hj=>by cases hj
 | nil=>exact aU λ j hj=>by cases hj
 | dn u=>exact aU λ j hj=>by cases hj
 | fn f=>exact aU λ j hj=>by cases hj
structure Fx(F:AV->AV):Prop where
 aW:∀ v,F (.aW v) = .aW v
 agg:∀ cs,F (.agg cs) = .agg (cs.map F)
 kW:∀ cs,F (.kW cs) = .kW (cs.map F)
 dq:∀ f cs,F (.dq f cs) = .dq f (cs.map F)
 any:F .any = .any
 aE:∀ i,(∃ u,F (.aE i) = .aW u)\/F (.aE i) = .aE i
 dn:∀ v,F (.dn v) = .dn v
section
variable {F:AV->AV} {G':Gh} {lk lk':Nat->Option aB} (hF:Fx F) (hC:∀ v x,C1 c G lk w v x->C1 c G' lk' w (F v) x) (hS:∀ b,G.S b->G'.S b)
include hF hC hS
theorem CR.fx{v:AV}{x:Value}(h:CR c G lk w v x):CR c G' lk' w (F v) x:=by
 rcases h.inv with ⟨u,rfl,h1⟩|⟨cs,l,rfl,rfl,h1⟩|h1
 .rw[hF.aW];exact fA.mono h1 hS (λ _ _=>rfl)
 .rw[hF.agg]
  exact⟨l,rfl,aT.eO _ (h1.imp λ u y _ hy=>hC u y hy)⟩
 .exact (hC _ _ h1).Yr
theorem VR.fx{v:AV}{x:Value}(h:VR c G lk w v x):VR c G' lk' w (F v) x:=by
 have key:C1 c G lk w v x->VR c G' lk' w (F v) x:=λ q=>(hC v x q).iU
 cases v with
 | aW u=>rw[hF.aW];exact fA.mono h hS (λ _ _=>rfl)
 | agg cs =>
  obtain⟨l,rfl,h2⟩:=h
  rw[hF.agg]
  exact⟨l,rfl,aT.eO _ (h2.imp λ u y _ hy=>hC u y hy)⟩
 | kW vs =>
  obtain⟨l,rfl,h2⟩:=h
  rw[hF.kW]
  refine⟨l,rfl,aT.eO _ (h2.imp λ u y _ hy=>?_)⟩
  cases u with
  | any=>rw[hF.any];trivial
  | aW v=>rw[hF.aW];exact fA.mono hy hS (λ _ _=>rfl)
  | aE i =>
   have q:=hC (.aE i) y hy
   rcases hF.aE i with ⟨u,e⟩|e<;>rw[e] at q ⊢
   .exact q.iU
   .exact q
  | agg cs =>
   obtain⟨l,rfl,h2⟩:=hy
   rw[hF.agg]
   exact⟨l,rfl,aT.eO _ (h2.imp λ u y _ hy=>hC u y hy)⟩
  | dn v =>
   have q:=hC (.dn v) y hy
   rw[hF.dn] at q ⊢
   exact q
  | _=>exact hy.elim
 | dq f cs =>
  obtain⟨l,rfl,h2⟩:=h
  rw[hF.dq]
  exact⟨l,rfl,aT.eO _ (h2.imp λ u y _ hy=>CR.fx hF hC hS hy)⟩
 | any=>rw[hF.any];trivial
 | _=>exact key h
end
theorem a3I(id:Nat)(u:TV):Fx (AV.Ic id (.aW u)):=⟨λ _=>rfl,λ cs=>by rw[AV.Ic,B6],λ cs=>by rw[AV.Ic,B6],λ f cs=>by rw[AV.Ic,B6],rfl,λ i => .inr rfl,λ _=>rfl⟩
theorem a3H(id:Nat)(u:TV):Fx (AV.E2 id (.aW u)):=⟨λ _=>rfl,λ cs=>by rw[AV.E2,B5],λ cs=>by rw[AV.E2,B5],λ f cs=>by rw[AV.E2,B5],rfl,λ i=>by
 simp only[AV.E2]
 split
 .exact .inl ⟨u,rfl⟩
 .exact .inr rfl,λ _=>rfl⟩
def aB.fK(F:AV->AV):aB->aB
 | .box cs => .box (cs.map F)
 | o=>o
theorem Inv.fix(h:Inv c G s a w)(id:Nat)(F:AV->AV)(hF:Fx F)(B:Nat->Prop)(hB:∀ b,B b->(c.w0.heap.size<=b\/c.X b)/\b<w.heap.size/\(∀ i o,i≠id->s.af i=some o->eV (G.η i)≠some b)/\∀ i τ xs,i≠id->s.af i=some (.aE τ xs)->b∉G.φ i)
  (hC:∀ lk',(∀ j,j≠id->fb (s.af j) (lk' j))->∀ v x,C1 c G s.af w v x->C1 c ⟨λ b=>G.S b\/B b,G.η,G.φ⟩ lk' w (F v) x) :
  Inv c ⟨λ b=>G.S b\/B b,G.η,G.φ⟩ { aC:=s.aC.map F,aK:=(bW id s.aK).map λ p=>(p.1,p.2.fK F) } a w:=by
 have hS:∀ b,G.S b->G.S b\/B b:=λ b hb => .inl hb
 have cG:∀ i,ah.af { aC:=s.aC.map F,aK:=(bW id s.aK).map λ p=>(p.1,p.2.fK F) } i=(if i=id then none else s.af i).map (aB.fK F):=by
  intro i
  show af ((bW id s.aK).map _) i=_
  rw[HC,eZ]
  rfl
 have gN:∀ j,j≠id->fb (s.af j) (ah.af { aC:=s.aC.map F,aK:=(bW id s.aK).map λ p=>(p.1,p.2.fK F) } j):=by
  intro j hj
  rw[cG,a8y hj]
  refine⟨λ hh=>?_,λ e τ xs hh=>⟨e,xs,by rw[hh];rfl,a9i _⟩,λ hh=>?_,λ hh=>?_⟩
  .match hq:s.af j,hh with
   | some (.box cs),_=>rfl
  .match hq:s.af j,hh with
   | some (.aE τ xs),_=>rfl
  .match hq:s.af j,hh with
   | some (.map m),_=>rfl
 have hC:=hC _ gN
 have hinv:∀ i o,ah.af { aC:=s.aC.map F,aK:=(bW id s.aK).map λ p=>(p.1,p.2.fK F) } i=some o->i≠id/\∃ o',s.af i=some o'/\o=o'.fK F:=λ i o cE=>by
  rw[cG] at cE
  simp only[a9m] at cE
  obtain⟨o',cE,rfl⟩:=cE
  by_cases hi:i=id
  .simp[hi] at cE
  .rw[a8y hi] at cE
   exact⟨hi,o',cE,rfl⟩
 exact {
  defers:=h.defers
  size:=by rw[h.size];simp
  aU:=h.aU
  oE:=h.oE
  fE:=λ b Y6 hx=>⟨λ hh=>by
   rcases hh with hh|hh
   .exact (h.fE b Y6 hx).1 hh
   .exact (hB b hh).1.elim (λ q=>by omega) (λ q=>absurd q hx),λ hh => .inl ((h.fE b Y6 hx).2 hh)⟩
  sX:=λ b hh => .inl (h.sX b hh)
  ez:=λ b hh=>by
   rcases hh with hh|hh
   .exact h.ez b hh
   .exact (hB b hh).2.1
  aC:=λ i=>by
   have he:ah.sl { aC:=s.aC.map F,aK:=(bW id s.aK).map λ p=>(p.1,p.2.fK F) } i=F (s.sl i):=by
    simp only[ah.sl,a8H,a9W]
    cases s.aC[i]? with
    | none=>exact hF.any.symm
    | some v=>rfl
   rw[he]
   exact VR.fx hF hC hS (h.aC i)
  aK:=λ i o cE=>by
   obtain⟨hi,o',eW,rfl⟩:=hinv i o cE
   have cQ:=h.aK i o' eW
   cases o' with
   | box cs =>
    obtain⟨b,l,t,k1,k2,k3⟩:=cQ
    exact⟨b,l,t,k1,k2,aT.eO _ (k3.imp λ u y _ hy=>hC u y hy)⟩
   | row e2 n9 pW =>
    obtain⟨l,k1,k2,k3⟩:=cQ
    exact⟨l,k1,fw.aU hS (λ _ _=>rfl) _ k2,k3⟩
   | aE n9 pW=>trivial
   | map m=>exact cQ
  place:=λ i o b cE kJ=>by
   obtain⟨hi,o',eW,rfl⟩:=hinv i o cE
   obtain⟨q1,q2,q3⟩:=h.place i o' b eW kJ
   exact⟨q1,λ hs=>hs.elim q2 λ hs=>(hB b hs).2.2.1 i o' hi eW kJ,q3⟩
  apart:=λ i j o o2 b cE KG xN rn=>by
   obtain⟨_,o',eW,rfl⟩:=hinv i o cE
   obtain⟨_,o2',a6V,rfl⟩:=hinv j o2 KG
   exact h.apart i j o' o2' b eW a6V xN rn
  bc:=by
   have hold:∀ j n9 pW,ah.af { aC:=s.aC.map F,aK:=(bW id s.aK).map λ p=>(p.1,p.2.fK F) } j=some (.aE n9 pW)->j≠id/\s.af j=some (.aE n9 pW):=λ j n9 pW k=>by
    obtain⟨hj,o',KG,e⟩:=hinv j _ k
    refine⟨hj,?_⟩
    match o',e with
    | .aE ..,e=>rw[KG,e];rfl
    | .box _,e=>cases e
    | .row ..,e=>cases e
    | .map _,e=>cases e
   exact {
    tr:=λ j n9 pW k=>h.bc.tr j n9 pW (hold j n9 pW k).2
    nd:=λ j n9 pW k=>h.bc.nd j n9 pW (hold j n9 pW k).2
    pl:=λ j n9 pW b k cD=>by
     obtain⟨hj,k⟩:=hold j n9 pW k
     obtain⟨q1,q2,q3,q4⟩:=h.bc.pl j n9 pW b k cD
     refine⟨q1,λ hs=>hs.elim q2 λ hs=>(hB b hs).2.2.2 j n9 pW hj k cD,q3,λ i o cE=>?_⟩
     obtain⟨_,o',eW,rfl⟩:=hinv i o cE
     exact q4 i o' eW
    ap:=λ j j' n9 a5b pW a5a b k k'=>h.bc.ap j j' n9 a5b pW a5a b (hold j n9 pW k).2 (hold j' a5b a5a k').2 }
  root:=λ i v hr ht=>h.root i v hr (by
   match hl:ah.af { aC:=s.aC.map F,aK:=(bW id s.aK).map λ p=>(p.1,p.2.fK F) } i,ht with
   | some (.aE ..),_ =>
    obtain⟨_,o',cE,e⟩:=hinv i _ hl
    match o',e with
    | .aE ..,e=>rw[cE];rfl
    | .box _,e=>cases e
    | .row ..,e=>cases e
    | .map _,e=>cases e)
  lj:=h.lj
  dQ:=λ i v hr ht=>h.dQ i v hr (by
   match hl:ah.af { aC:=s.aC.map F,aK:=(bW id s.aK).map λ p=>(p.1,p.2.fK F) } i,ht with
   | some (.box _),_ =>
    obtain⟨_,o',cE,e⟩:=hinv i _ hl
    match o',e with
    | .box _,e=>rw[cE];rfl
    | .aE ..,e=>cases e
    | .row ..,e=>cases e
    | .map _,e=>cases e)
  gu:=h.gu }
theorem a0S(id:Nat)(u:AV)(o:aB):o.Ic id u=o.fK (AV.Ic id u):=by
 cases o<;>simp[aB.Ic,aB.fK,B6]
theorem a0R(id:Nat)(u:AV)(o:aB):o.E2 id u=o.fK (AV.E2 id u):=by
 cases o<;>simp[aB.E2,aB.fK,B5]
theorem Inv.freeze(h:Inv c G s a w)(id:Nat):∃ G',Inv c G' (s.freeze id) a w:=by
 unfold ah.freeze
 split
 .rename_i e τ xs bf
  have ho:=h.aK id _ bf
  rw[B6]
  simp only[a0S]
  exact⟨_,h.fix id _ (a3I id _) (λ b=>eV (G.η id)=some b) (λ b hb=>by
   obtain⟨q1,_,q3⟩:=h.place id _ b bf hb
   exact⟨q1,q3,λ i o hi cE xN=>hi (h.apart i id o _ b cE bf xN hb),λ i τ xs _ k q=>(h.bc.pl i τ xs b k q).2.2.2 id _ bf hb⟩)
   λ lk' hs v x hv=>C1.Ic bf ho (λ _ hb => .inl hb) (λ _ hb => .inr hb) hs hv⟩
 .rename_i τ xs bf
  rw[B5]
  simp only[a0R]
  exact⟨_,h.fix id _ (a3H id _) (λ b=>b∈G.φ id) (λ b hb=>by
   obtain⟨q1,_,q3,q4⟩:=h.bc.pl id _ _ b bf hb
   exact⟨q1,q3,λ i o _ cE=>q4 i o cE,λ i τ xs hi k q=>hi (h.bc.ap i id _ _ _ _ b k bf q hb)⟩)
   λ lk' hs v x hv=>C1.E2 bf (h.bc.tr id _ _ bf) (λ _ hb => .inl hb) (λ _ hb => .inr hb) hs hv⟩
 .exact⟨G,h⟩
theorem Inv.F5:∀ (l:List Nat) {G:Gh} {s:ah},Inv c G s a w->∃ G',Inv c G' (l.foldl ah.freeze s) a w
 | [],G,s,h=>⟨G,h⟩
 | i::r,G,s,h=>by
  obtain⟨G',h'⟩:=h.freeze i
  exact Inv.F5 r h'
theorem HA{lk:Nat->Option aB}{v:AV}{x:Value}{K:Prop}(hv:VR c G lk w v x)(h:known v K):K:=by
 unfold known at h
 split at h
 .rename_i n
  obtain⟨_,h1,h2⟩:=hv
  refine h ⟨?_,?_⟩
  .have:=h1;simp only[IntKind.min,IntKind.signed,IntKind.bits,b0r] at this;omega
  .have:=h2;simp only[IntKind.max,IntKind.signed,IntKind.bits,b0r] at this;omega
 .rename_i t xs
  obtain⟨_,_,_,_,h1,_⟩:=mY hv
  exact h h1
 .rename_i xs
  obtain⟨s,_,h2,h3⟩:=hv
  subst h2
  exact h (by rw[a9v];exact h3)
 .exact h
theorem a5e{l:List Operand}{u v:AV}{ev:Operand->AV}(h:l.map ev=[u,v]){lk:Nat->Option aB}(dc:∀ x,VR c G lk w (ev x) (a.eval x)):∃ x y,l.map a.eval=[x,y]/\VR c G lk w u x/\VR c G lk w v y:=by
 have:=aT.rj dc l
 rw[h] at this
 match hl:l.map a.eval,this with
 | [x,y],hh=>exact⟨x,y,rfl,hh.1,hh.2.1⟩
theorem Jp(hE:bP c.P c.E)(h:Inv c G s a w){o:Oper}{T:TypeId}{m k x:Operand}(bE:o.op = .mapUpdate T m k x\/o.op = .insert T m k x){vc:Vc}{s':ah}(he:Rp c.E s o.dst T m k x=some (vc,s'))(fk:vc.ok){Q:Exit->Act->World->Prop} :
  o.wp c.P a w (λ a' w'=>∃ G',Inv c G' s' a' w') Q:=by
 cases he
theorem YS(hE:bP c.P c.E)(h:Inv c G s a w){o:Oper}{vc:Vc}{s':ah}(he:V1 c.E s o=some (vc,s'))(fk:vc.ok){Q:Exit->Act->World->Prop} :
  o.wp c.P a w (λ a' w'=>∃ G',Inv c G' s' a' w') Q:=by
 unfold V1 at he
 split at he
 .rename_i bE
  exact Jp hE h (.inl bE) he fk
 .rename_i bE
  exact Jp hE h (.inr bE) he fk
 .rename_i T ad x bE
  split at he
  .rename_i τ r hT
   have hp:=bC h ad
   have hx:=bC h x
   have fin:∀ w' G1 (s1:ah),(Instr.storeAt T (a.eval ad) (a.eval x)).run c.P w = .ok () w'->Inv c G1 s1 a w'->s'=s1.put o.dst .any->o.wp c.P a w (λ a' w'=>∃ G',Inv c G' s' a' w') Q:=by
    intro w' G1 s1 hr hi hs
    unfold Oper.wp
    have:(execOp a.eval o).run c.P w = .ok .skip w':=by simp only[execOp,bE,a8Y,hr,a8Q,a8Z]
    rw[this]
    refine⟨G1,?_⟩
    rw[hs]
    exact Inv.put hi trivial
   split at he
   .rename_i id off dc
    split at he
    .rename_i cs bf
     split at he
     .rename_i new tE
      split at he
      .rename_i dN Cf
       simp only[a8o,a8u] at he
       obtain⟨rfl,rfl⟩:=he
       rw[dc] at hp
       obtain⟨w',k1,k2⟩:=h.store hE hT bf hp ⟨_,tE,hx⟩ Cf
       exact fin w' _ _ k1 k2 rfl
      .cases he
     .cases he
    .cases he
   .rename_i id i dc
    split at he
    .rename_i e' bo xs bf
     split at he
     .rename_i y l8 hy
      have l8:=a9e l8
      subst l8
      simp only[a8o,a8u] at he
      obtain⟨rfl,rfl⟩:=he
      rw[dc] at hp
      obtain⟨w',k1,k2⟩:=h.a1s hE hT bf hp hx hy
      exact fin w' _ _ k1 k2 rfl
     .cases he
    .cases he
   .cases he
  .cases he
 .rename_i cl bE
  split at he
  .rename_i jQ
   split at he
   .rename_i d T T' hd Wb
    split at he
    .rename_i τ b e Sw hT
     have Sw:=a8s Sw
     subst Sw
     split at he
     .rename_i id y fB
      split at he
      .rename_i e' bo xs ys bf hy
       split at he
       .rename_i dh Cb ot
        have Cb:=a8s Cb
        have e1:=TV.aY ot
        cases e1
        subst Cb
        simp only[a8o,a8u] at he
        obtain⟨rfl,rfl⟩:=he
        obtain⟨x,z,m1,m2,m3⟩:=a5e (a:=a) (c:=c) (G:=G) (w:=w) fB (bC h)
        obtain⟨v',w',G',k1,k2⟩:=h.append hE hT (d:=d) bf m2 m3 hy fk o.type
        have Mp:cl.argTypes = #[T,T]:=by rw[<-a9A (xs:=cl.argTypes),Wb]
        have Gk:cl.args.map a.eval = #[x,z]:=by rw[<-a9A (xs:=cl.args.map a.eval),b0q,m1]
        unfold Oper.wp
        have:(execOp a.eval o).run c.P w = .ok (.value v') w':=by
         simp[execOp,bE,resolve,jQ,invoke,builtin,Mp,Gk,k1]
        rw[this]
        refine⟨G',?_⟩
        rw[hd]
        exact k2
       .cases he
      .cases he
     .cases he
    .cases he
   .cases he
  .cases he
 .cases he
theorem ZA(hE:bP c.P c.E)(h:Inv c G s a w){o0:Oper}{vc:Vc}{v:AV}{ob:Option aB}(he:WH c.E s o0=some (vc,v,ob))(fk:vc.ok){Q:Exit->Act->World->Prop} :
  o0.wp c.P a w (zn c G s.sl s.aC.length s.af o0.dst a w v ob) Q:=by
 unfold WH at he
 split at he
 case h_2=>cases he
 case h_1 cl bE =>
 split at he
 case h_2=>cases he
 case h_1 f jQ =>
 split at he
 case h_2=>cases he
 case h_1 d hd =>
 split at he
 case h_2=>cases he
 case h_1 Z9 has =>
 have key:∀ (T:Nat->Prop),(∀ x∈cl.args.toList.map a.eval,∀ q:Addr,x = .pointer (some q)->T q.block)->∀ pre o,c.E.Tb f Z9=some (pre,o)->pre.ok->o0.wp c.P a w (λ a' w'=>∃ x S',a'=a.put o0.dst x/\bz c ⟨S',G.η,G.φ⟩ s.sl s.aC.length s.af a w' /\
   (∀ b,G.S b->S' b)/\(∀ b,eV x=some b->w.heap.size<=b/\b<w'.heap.size/\¬ S' b)/\a1E w' S' T x o) Q:=λ T hT pre o hc fk=>by
  obtain⟨vO,rp⟩:=hE.Tb f Z9 pre o hc fk
  unfold Oper.wp
  rw[mN bE jQ rfl vO]
  simp only[Oper.upon]
  refine (rp w G.S T _ h.sOk hT (kE hE h (DD (λ _ _ h=>h)) (λ _ h=>h) (λ τ v x y h1 h2=>Bx DE Ay h1 h2) has (aT.rj (bC h) _))).mono ?_
  rintro e w' ⟨x,S',rfl,hk,hS1,hS2,hb,hx⟩
  exact⟨x,S',rfl,bz.grow h hk hS1 hS2,λ b hb=>(hS1 b (h.ez b hb)).2 hb,hb,hx⟩
 split at he
 case h_4=>cases he
 case h_3 pre l hc =>
  split at he
  case h_2=>cases he
  case h_1 cw =>
  simp only[a8o,a8u] at he
  obtain⟨rfl,rfl,rfl⟩:=he
  refine a9V ?_ (key (St c G.S) (λ x hx q hq=>?_) _ _ hc fk)
  .rintro a' w' ⟨x,S',rfl,hI,hS,hb,ys,rfl,Oo⟩
   refine⟨_,S',rfl,hI,ys.toArray.toList,rfl,aT.eO _ (Oo.imp λ r y _ hy=>?_)⟩
   obtain⟨bb,v⟩:=r
   cases bb with
   | true =>
    obtain⟨b,o,cs,h1,h2,h3,h4⟩:=hy
    exact⟨b,o,cs,h1,h2.elim .inl λ h2=>h2.imp (hS b) id,h3,h4⟩
   | false=>exact hy
  .obtain⟨y,hy,rfl⟩:=a8A.1 hx
   have h1:=a9a.1 cw _ (a8A.2 ⟨y,hy,rfl⟩)
   have h2:=bC h y
   generalize s.eval y=v at h1 h2
   rw[hq] at h2
   cases v with
   | dn u=>obtain⟨b,o,cs,e,h3,_⟩:=h2;cases e;exact h3
   | aW u =>
    obtain⟨τ,z⟩:=u
    cases τ with
    | int k=>obtain⟨e,_⟩:=h2;cases e
    | bool=>have e:[Value.pointer (some q)]=[.bool z]:=h2;cases e
    | str=>obtain⟨_,e,_⟩:=h2;cases e
    | slice t=>obtain⟨_,_,e,_⟩:=h2;cases e
    | st s=>obtain⟨_,e,_⟩:=h2;cases e
    | mv t=>cases z with
     | none=>obtain⟨_,_,_,e⟩:=h2;cases e
     | some z=>obtain⟨_,_,e,_⟩:=h2;cases e
    | ptr=>cases h1
   | _=>cases h1
 case h_1 pre cells hc =>
  simp only[a8o,a8u] at he
  obtain⟨rfl,rfl,rfl⟩:=he
  refine a9V ?_ (key (λ _=>True) (λ _ _ _ _=>trivial) _ _ hc fk)
  rintro a' w' ⟨x,S',rfl,hI,_,hb,b,l,t,rfl,hh,oq⟩
  exact⟨_,S',rfl,hI,⟨d,hd,rfl⟩,⟨b,l,t,rfl,hh,aT.eO _ (oq.imp λ u y _ hy=>hy)⟩,hb⟩
 case h_2 pre e τ xs hc =>
  simp only[a8o,a8u] at he
  obtain⟨rfl,rfl,rfl⟩:=he
  refine a9V ?_ (key (λ _=>True) (λ _ _ _ _=>trivial) _ _ hc fk)
  rintro a' w' ⟨x,S',rfl,hI,_,hb,l,h1,h2,h3⟩
  exact⟨_,S',rfl,hI,⟨d,hd,rfl⟩,⟨l,h1,h2,h3⟩,hb⟩
theorem Nf(hE:bP c.P c.E)(h:Inv c G s a w){o:Oper}{K:ah->Prop}(hr:oC c.E o K s){Q:Exit->Act->World->Prop} :
  o.wp c.P a w (λ a' w'=>∃ G' s',Inv c G' s' a' w'/\K s') Q:=by
 unfold oC at hr
 split at hr
 .exact hr.elim
 rename_i KD
 obtain⟨G1,h1⟩:=h.F5 (om c.E s o)
 generalize (om c.E s o).foldl ah.freeze s=s1 at *
 simp only at hr
 split at hr
 .rename_i vc s' he
  exact a9V (λ a' w' ⟨G',hg⟩=>⟨G',s',hg,(Vc.nf hr).2⟩) (ZK hE h1 he (Vc.nf hr).1)
 split at hr
 .rename_i vc s' he
  exact a9V (λ a' w' ⟨G',hg⟩=>⟨G',s',hg,(Vc.nf hr).2⟩) (YN hE h1 he (Vc.nf hr).1)
 split at hr
 .rename_i vc s' he
  exact a9V (λ a' w' ⟨G',hg⟩=>⟨G',s',hg,(Vc.nf hr).2⟩) (YS hE h1 he (Vc.nf hr).1)
 .split at hr
  .rename_i vc s' he
   exact a9V (λ a' w' ⟨G',hg⟩=>⟨G',s',hg,(Vc.nf hr).2⟩) (ZB hE h1 he (Vc.nf hr).1)
  split at hr
  .rename_i vc v ob he
   refine a9V ?_ (ZA hE h1 he (Vc.nf hr).1)
   intro a' w' hd
   obtain⟨G',hl⟩:=SZ h1 KD hd
   exact⟨G',_,hl,(Vc.nf hr).2⟩
  .split at hr
   .rename_i vc v ob hq
    obtain⟨fk,hk⟩:=Vc.nf hr
    refine a9V ?_ (K4 hE h1 (λ _ _ h=>h) (bC h1) hq fk)
    intro a' w' hd
    obtain⟨G',hl⟩:=SZ h1 KD hd
    refine⟨G',_,hl,?_⟩
    split at hk
    .obtain⟨x,S',_,_,hx⟩:=hd
     cases ob with
     | none=>exact HA hx hk
     | some ob =>
      obtain⟨hL,_⟩:=hx
      cases ob with
      | box cs=>obtain⟨i,_,rfl⟩:=hL;exact hk
      | row e τ xs=>obtain⟨i,_,rfl⟩:=hL;exact hk
      | aE τ xs=>exact hL.elim
      | map m=>obtain⟨i,_,rfl⟩:=hL;exact hk
    .exact hk
   .exact hr.elim
theorem Y2{t:Array Value}{i:Nat}{b:Bool}(h:t.getD i undef = .bool b):t[i]?=some (.bool b):=by
 rw[a9n] at h
 cases hx:t[i]? with
 | none=>rw[hx] at h;simp[undef] at h
 | some v=>rw[hx] at h;simpa using h
theorem KA{ops:Array Oper}{g t:Nat}{b:Bool}(ht:xM ops g=some t)(hx:VR c G s.af w (.aW ⟨.bool,b⟩) (a.eval (.tmp t))):yielded ops a.tmps g=some b:=by
 have hb:[a.eval (.tmp t)]=[.bool b]:=hx
 simp only[a8z,a8F] at hb
 have:=Y2 hb
 unfold yielded
 rw[show (ops[g]?).bind (·.dst)=some t from ht]
 simp[this]
theorem Ga{ops:Array Oper}{g t:Nat}(ht:xM ops g=some t)(hx:VR c G s.af w .eG (a.eval (.tmp t))):yielded ops a.tmps g=none:=by
 have hb:a.eval (.tmp t)=undef:=hx
 have hb:a.tmps.getD t undef=undef:=hb
 unfold yielded
 rw[show (ops[g]?).bind (·.dst)=some t from ht]
 rw[a9n] at hb
 cases hx:a.tmps[t]? with
 | none=>simp[hx]
 | some v =>
  rw[hx] at hb
  have hv:v=undef:=hb
  subst hv
  simp[hx,undef]
theorem Inv.slot(h:Inv c G s a w)(t:Nat){b b':Bool}(he:s.eval (.tmp t) = .aW ⟨.bool,b⟩)(hb:b=b'):Inv c G (s.put (some t) (.aW ⟨.bool,b'⟩)) a w:=by
 have:s.put (some t) (.aW ⟨.bool,b'⟩)=s\/(s.put (some t) (.aW ⟨.bool,b'⟩)).sl=s.sl:=by
  right
  rw[a0A]
  funext i
  unfold mZ
  split
  .rename_i hi
   obtain⟨h1,h2⟩:=hi
   simp only[a8o] at h1
   subst h1
   rw[<-hb,<-he]
   rfl
  .rfl
 rcases this with e|e
 .rw[e];exact h
 .unfold Inv
  rw[e,Vm,Qc]
  exact h
theorem C2(hE:bP c.P c.E){ops:Array Oper}{Q:ah->Prop}{o:Oper}{r:List Oper}{kn:List (Nat×Bool)}(h:Inv c G s a w)(hr:gb c.E ops (o::r) kn Q s) :
  if Region.wanted o (yielded ops a.tmps)=true then ∀ Q':Exit->Act->World->Prop,o.wp c.P a w (λ a' w'=>∃ G' s' ry,Inv c G' s' a' w'/\gb c.E ops r ry Q s') Q'
  else ∃ G' s' ry,Inv c G' s' (a.put o.dst undef) w/\gb c.E ops r ry Q s':=by
 have run:∀ (kn:List (Nat×Bool)) (s:ah),Inv c G s a w->oC c.E o (gb c.E ops r kn Q) s->∀ Q':Exit->Act->World->Prop,o.wp c.P a w (λ a' w'=>∃ G' s' ry,Inv c G' s' a' w'/\gb c.E ops r ry Q s') Q':=λ kn s hs cZ Q' =>
  a9V (λ a' w' ⟨G',s',h1,h2⟩=>⟨G',s',kn,h1,h2⟩) (Nf hE hs cZ)
 have skip:∀ (kn:List (Nat×Bool)) (s:ah),Inv c G s a w->gb c.E ops r kn Q (s.put o.dst .eG)->∃ G' s' ry,Inv c G' s' (a.put o.dst undef) w/\gb c.E ops r ry Q s':=λ kn s hs hk =>
  ⟨G,_,kn,Inv.put (v := .eG) hs rfl,hk⟩
 simp only[gb] at hr
 split at hr
 .rename_i hg
  have hw:Region.wanted o (yielded ops a.tmps)=true:=by simp[Region.wanted,hg]
  rw[a8O hw]
  exact run kn s h hr
 .rename_i g want hg
  split at hr
  .exact hr.elim
  .rename_i t ht
   split at hr
   .rename_i b hb
    split at hr
    .rename_i b' dc
     have hx:=bC h (.tmp t)
     rw[dc] at hx
     have hy:=KA (s:=s) ht hx
     split at hr
     .rename_i kJ KC
      have kJ:=eq_of_beq kJ
      subst kJ
      have hw:Region.wanted o (yielded ops a.tmps)=true:=by simp[Region.wanted,hg,hy];simpa using KC
      rw[a8O hw]
      exact run kn s h hr
     .rename_i kJ KC
      have kJ:=eq_of_beq kJ
      subst kJ
      have hw:Region.wanted o (yielded ops a.tmps)=false:=by simp[Region.wanted,hg,hy];simpa using KC
      rw[hw]
      exact skip kn s h hr
     .exact hr.elim
    .rename_i dc
     have hx:=bC h (.tmp t)
     rw[dc] at hx
     have hy:=Ga (s:=s) ht hx
     have hw:Region.wanted o (yielded ops a.tmps)=false:=by simp[Region.wanted,hg,hy]
     rw[hw]
     exact skip kn s h hr
    .exact hr.elim
   .split at hr
    .rename_i b dc
     have hx:=bC h (.tmp t)
     rw[dc] at hx
     have hy:=KA (s:=s) ht hx
     by_cases KC:b=want
     .have hw:Region.wanted o (yielded ops a.tmps)=true:=by simp[Region.wanted,hg,hy,KC]
      rw[a8O hw]
      exact run _ _ (h.slot t dc KC) (hr.1 KC)
     .have Uk:b = !want:=by cases b<;>cases want<;>simp_all
      have hw:Region.wanted o (yielded ops a.tmps)=false:=by simp[Region.wanted,hg,hy,Uk]
      rw[hw]
      exact skip _ _ (h.slot t dc Uk) (hr.2 Uk)
    .rename_i dc
     have hx:=bC h (.tmp t)
     rw[dc] at hx
     have hy:=Ga (s:=s) ht hx
     have hw:Region.wanted o (yielded ops a.tmps)=false:=by simp[Region.wanted,hg,hy]
     rw[hw]
     exact skip kn s h hr
    .exact hr.elim
theorem AL(hE:bP c.P c.E){ops:Array Oper}{Q:ah->Prop}{Q':Exit->Act->World->Prop}(hQ:∀ G s a w,Inv c G s a w->Q s->Q' .normal a w) :
  ∀ (r:List Oper) (i:Nat) (kn:List (Nat×Bool)) (G:Gh) (s:ah) (a:Act) (w:World),(∀ j o,r[j]?=some o->ops[i+j]?=some o)->Inv c G s a w->gb c.E ops r kn Q s->wpOps c.P ops Q' (List.range' i r.length) a w
 | [],i,kn,G,s,a,w,_,h,hr=>hQ G s a w h hr
 | o::r,i,kn,G,s,a,w,a4P,h,hr=>by
  have ho:ops[i]?=some o:=a4P 0 o rfl
  have xQ:∀ j p,r[j]?=some p->ops[i+1+j]?=some p:=λ j p hj=>by
   have:=a4P (j+1) p (by simpa using hj)
   rwa [show i+(j+1)=i+1+j by omega] at this
  simp only[a8C,List.range'_succ,wpOps,ho]
  have qe:=C2 hE h hr
  split at qe
  .rename_i hw
   rw[a8O hw]
   exact .inl (a9V (λ a' w' ⟨G',s',ry,h1,h2⟩=>AL hE hQ r (i+1) ry G' s' a' w' xQ h1 h2) (qe Q'))
  .rename_i hw
   rw[a8y hw]
   obtain⟨G',s',ry,h1,h2⟩:=qe
   exact AL hE hQ r (i+1) ry G' s' _ w xQ h1 h2
end
end Go.Proofs.YtmjfpcajohhbeaaGreatDoor

namespace Go.Proofs.YtmjfpcajohhbeaaGreatDoor
structure NT where
 IJ:Bool
 v:AV
 ob:Option aB
def GV(want IJ:Bool):AV->Prop
 | .aW ⟨.bool,b⟩=>IJ=(b == want)
 | .eG=>IJ=false
 | _=>False
def iC(l:List Oper)(bits:Nat)(s:ah)(o:Oper)(IJ:Bool):Prop :=
 match o.guard with
 | none=>IJ=true
 | some (g,want)=>∃ t v,cB l g=some t/\Nat.testBit bits g=true/\s.eval (.tmp t)=v/\GV want IJ v
def Ry(E:Env)(l:List Oper)(m bits:Nat)(s:ah)(o:Oper)(e:NT):Prop :=
 iC l bits s o e.IJ/\(e.IJ=true->∃ vc:Vc,K3 E (QM l m bits s) (Ug l m bits s) o=some (vc,e.v,e.ob)/\vc.ok)/\(e.IJ=false->e.v = .eG/\e.ob=none)
def Trace(E:Env)(l:List Oper)(m:Nat)(cf:List Nat):Nat->List Oper->List NT->ah->ah->Prop
 | _,[],[],s,s'=>s=s'
 | i,o::r,e::es,s,s'=>Ry E l m (cf.getD i 0) s o e/\Trace E l m cf (i+1) r es (s.mH o.dst e.v e.ob) s'
 | _,_,_,_,_=>False
theorem Vw{s:ah}{t:Nat}{v:AV}(h:s.eval (.tmp t)=v)(hv:v ≠ .any):s.put (some t) v=s:=by
 have bS:t<s.aC.length:=by
  rcases a9t t s.aC.length with hl|hl
  .exact hl
  .simp only[ah.eval,a8H,b0J hl,Option.getD_none] at h
   exact absurd h.symm hv
 simp only[ah.eval,a8H,a8P bS,b1e] at h
 simp only[ah.put]
 congr 1
 subst h
 exact List.set_getElem_self bS
theorem Ov(s:ah)(d:Option Nat):s.mH d .eG none=s.put d .eG:=by cases d<;>rfl
theorem uH{E:Env}{l:List Oper}{m:Nat}{cf:List Nat}{Q:List (Nat×Bool)->ah->Prop}:∀ {r:List Oper} {i:Nat} {kn:List (Nat×Bool)} {s:ah},pF E l m cf i r kn Q s ->
  ∃ es ry s',Trace E l m cf i r es s s'/\Q ry s'
 | [],i,kn,s,h=>⟨[],kn,s,rfl,h⟩
 | o::r,i,kn,s,h=>by
  have run:∀ kn,iC l (cf.getD i 0) s o true->Ng E l m (cf.getD i 0) o (pF E l m cf (i+1) r kn Q) s->∃ es ry s',Trace E l m cf i (o::r) es s s'/\Q ry s':=by
   intro kn hg hr
   unfold Ng at hr
   split at hr
   .split at hr
    .rename_i vc v ob hq
     obtain⟨es,ry,s',h1,h2⟩:=uH (Vc.nf hr).2
     exact⟨⟨true,v,ob⟩::es,ry,s',⟨⟨hg,λ _=>⟨vc,hq,(Vc.nf hr).1⟩,λ h=>(by cases h)⟩,h1⟩,h2⟩
    .exact hr.elim
   .exact hr.elim
  have skip:∀ kn,iC l (cf.getD i 0) s o false->pF E l m cf (i+1) r kn Q (s.put o.dst .eG)->∃ es ry s',Trace E l m cf i (o::r) es s s'/\Q ry s':=by
   intro kn hg hr
   obtain⟨es,ry,s',h1,h2⟩:=uH hr
   exact⟨⟨false, .eG,none⟩::es,ry,s',⟨⟨hg,λ h=>(by cases h),λ _=>⟨rfl,rfl⟩⟩,by rw[Ov];exact h1⟩,h2⟩
  simp only[pF] at h
  split at h
  .rename_i hg
   exact run kn (by simp[iC,hg]) h
  .rename_i g want hg
   split at h
   .rename_i t ht Vb
    split at h
    .rename_i b hb
     split at h
     .rename_i b' dc
      split at h
      .rename_i kJ KC
       have kJ:=eq_of_beq kJ
       subst kJ
       exact run kn (by simp only[iC,hg];exact⟨t,_,ht,Vb,dc,KC.symm⟩) h
      .rename_i kJ KC
       have kJ:=eq_of_beq kJ
       subst kJ
       exact skip kn (by simp only[iC,hg];exact⟨t,_,ht,Vb,dc,KC.symm⟩) h
      .exact h.elim
     .rename_i dc
      exact skip kn (by simp only[iC,hg];exact⟨t,_,ht,Vb,dc,rfl⟩) h
     .exact h.elim
    .split at h
     .rename_i b dc
      by_cases KC:b=want
      .have h':=h.1 KC
       subst KC
       rw[Vw dc (by simp)] at h'
       exact run _ (by simp only[iC,hg];exact⟨t,_,ht,Vb,dc,by simp[GV]⟩) h'
      .have Uk:b = !want:=by cases b<;>cases want<;>simp_all
       have h':=h.2 Uk
       rw[<-Uk,Vw dc (by simp)] at h'
       exact skip _ (by simp only[iC,hg];exact⟨t,_,ht,Vb,dc,by simpa [GV] using KC⟩) h'
     .rename_i dc
      exact skip kn (by simp only[iC,hg];exact⟨t,_,ht,Vb,dc,rfl⟩) h
     .exact h.elim
   .exact h.elim
def ej(l:List Oper)(es:List NT)(s0:ah)(π:List Nat):ah :=
 π.foldl (λ s k=>s.mH (cB l k) (es.getD k ⟨false, .any,none⟩).v (es.getD k ⟨false, .any,none⟩).ob) s0
theorem Ox(s:ah)(d:Option Nat)(v:AV)(o:Option aB):(s.mH d v o).aC.length=s.aC.length:=by cases d<;>simp[ah.mH]
theorem MI(l:List Oper)(es:List NT):∀ (π:List Nat) (s0:ah),(ej l es s0 π).aC.length=s0.aC.length
 | [],_=>rfl
 | k::π,s0=>by
  show (ej l es (s0.mH _ _ _) π).aC.length=_
  rw[MI l es π,Ox]
theorem Ni(s:ah)(d:Option Nat)(v:AV)(o:Option aB):(s.mH d v o).sl=mZ s.aC.length s.sl d v:=by
 cases d with
 | none=>funext i;simp[ah.mH,mZ]
 | some d=>exact tn s.aC d v _
theorem DB(s:ah)(d:Option Nat)(v:AV)(o:Option aB)(j:Nat):(s.mH d v o).af j=if d=some j then (match o with
  | some o=>some o
  | none=>s.af j) else s.af j:=by
 cases d with
 | none=>simp[ah.mH]
 | some d =>
  cases o with
  | none =>
   simp only[ah.mH,ah.af,ite_self]
  | some o =>
   show af ((d,o)::s.aK) j=_
   rw[dP]
   by_cases h:j=d
   .subst h;simp
   .have:¬ (some d=some j):=by simp;exact λ e=>h e.symm
    rw[a8y h,a8y this];rfl
theorem iT(l:List Oper)(es:List NT)(t:Nat):∀ (π:List Nat) (s0:ah),(∀ k∈π,cB l k≠some t)->(ej l es s0 π).sl t=s0.sl t/\(ej l es s0 π).af t=s0.af t
 | [],_,_=>⟨rfl,rfl⟩
 | k::π,s0,h=>by
  obtain⟨h1,h2⟩:=iT l es t π (s0.mH (cB l k) (es.getD k ⟨false, .any,none⟩).v (es.getD k ⟨false, .any,none⟩).ob) (λ j hj=>h j (by simp[hj]))
  have hk:=h k (by simp)
  constructor
  .show (ej l es (s0.mH _ _ _) π).sl t=_
   rw[h1,Ni,mZ,a8y (λ hh=>hk hh.1)]
  .show (ej l es (s0.mH _ _ _) π).af t=_
   rw[h2,DB,a8y hk]
theorem yM(l:List Oper)(es:List NT)(t k:Nat)(hk:cB l k=some t):∀ (π:List Nat) (s0:ah),k∈π->π.Nodup->(∀ j∈π,j≠k->cB l j≠some t) ->
  (ej l es s0 π).sl t=(if t<s0.aC.length then (es.getD k ⟨false, .any,none⟩).v else s0.sl t) /\
  (ej l es s0 π).af t=(match (es.getD k ⟨false, .any,none⟩).ob with
   | some o=>some o
   | none=>s0.af t)
 | [],_,h,_,_=>by simp at h
 | j::π,s0,h,hn,ho=>by
  have AZ:=a9j.1 hn
  by_cases hj:j=k
  .subst hj
   obtain⟨h1,h2⟩:=iT l es t π (s0.mH (cB l j) (es.getD j ⟨false, .any,none⟩).v (es.getD j ⟨false, .any,none⟩).ob) (λ i hi=>ho i (by simp[hi]) (λ e=>by subst e;exact AZ.1 hi))
   constructor
   .show (ej l es (s0.mH _ _ _) π).sl t=_
    rw[h1,Ni,mZ]
    simp[hk]
   .show (ej l es (s0.mH _ _ _) π).af t=_
    rw[h2,DB,a8O hk]
  .have Mv:=ho j (by simp) hj
   obtain⟨h1,h2⟩:=yM l es t k hk π (s0.mH (cB l j) (es.getD j ⟨false, .any,none⟩).v (es.getD j ⟨false, .any,none⟩).ob) (by simpa [Ne.symm hj] using h) AZ.2 (λ i hi=>ho i (by simp[hi]))
   constructor
   .show (ej l es (s0.mH _ _ _) π).sl t=_
    rw[h1,Ox,Ni,mZ,a8y (c:=cB l j=some t/\_) (λ hh=>Mv hh.1)]
   .show (ej l es (s0.mH _ _ _) π).af t=_
    rw[h2]
    split
    .rfl
    .rw[DB,a8y Mv]
theorem TL{l:List Oper}{es:List NT}{m bits:Nat}{s0:ah}{π π':List Nat}(sH:∀ j k t,j<m->k<m->cB l j=some t->cB l k=some t->j=k)
  (Zn:∀ k∈π,k<m) (SQ:∀ k∈π',k<m) (hn:π.Nodup) (AZ:π'.Nodup) (ha:∀ k,k<m->Nat.testBit bits k=true->k∈π/\k∈π') (t:Nat) (hh:hidden l m bits t=false) :
  (ej l es s0 π).sl t=(ej l es s0 π').sl t/\(ej l es s0 π).af t=(ej l es s0 π').af t:=by
 by_cases hex:∃ k,k<m/\cB l k=some t
 .obtain⟨k,hk,hd⟩:=hex
  have hb:Nat.testBit bits k=true:=by
   have:=hh
   unfold hidden at this
   rw[a9X] at this
   have:=this k (by simpa using hk)
   simp only[hd] at this
   simp only[b1V] at this
   simpa using this
  obtain⟨h1,h2⟩:=ha k hk hb
  obtain⟨e1,e2⟩:=yM l es t k hd π s0 h1 hn (λ j hj fG E9=>fG (sH j k t (Zn j hj) hk E9 hd))
  obtain⟨e3,e4⟩:=yM l es t k hd π' s0 h2 AZ (λ j hj fG E9=>fG (sH j k t (SQ j hj) hk E9 hd))
  exact⟨e1.trans e3.symm,e2.trans e4.symm⟩
 .have k9:∀ k,k<m->cB l k≠some t:=λ k hk hd=>hex ⟨k,hk,hd⟩
  obtain⟨e1,e2⟩:=iT l es t π s0 (λ k hk=>k9 k (Zn k hk))
  obtain⟨e3,e4⟩:=iT l es t π' s0 (λ k hk=>k9 k (SQ k hk))
  exact⟨e1.trans e3.symm,e2.trans e4.symm⟩
theorem Hg(acc:List Nat)(k:Nat):∀ (es:List Edge) (s:Nat),Nat.testBit (es.foldl (xk acc) s) k=true->Nat.testBit s k=true\/∃ e∈es,Region.binds .any e=true/\(k=e.on\/Nat.testBit (acc.getD e.on 0) k=true)
 | [],s,h => .inl h
 | e::es,s,h=>by
  simp only[b1m] at h
  rcases Hg acc k es _ h with h|⟨e',Cb,h⟩
  .unfold xk at h
   split at h
   .rename_i hb
    simp only[Nat.testBit_or,b0c] at h
    rcases h with h|h|h
    .exact .inl h
    .refine .inr ⟨e,by simp,hb, .inl ?_⟩
     rw[Nat.one_shiftLeft,Nat.testBit_two_pow] at h
     exact (a9e h).symm
    .exact .inr ⟨e,by simp,hb, .inr h⟩
   .exact .inl h
  .exact .inr ⟨e',by simp[Cb],h⟩
theorem zp:∀ (l:List Oper) (acc:List Nat),∃ r,b9 l acc=acc++r/\r.length=l.length /\
  ∀ i o,l[i]?=some o->∀ k,Nat.testBit ((acc++r).getD (acc.length+i) 0) k=true->∃ e∈o.after.toList,Region.binds .any e=true/\(k=e.on\/(e.on<acc.length+i/\Nat.testBit ((acc++r).getD e.on 0) k=true))
 | [],acc=>⟨[],by simp[b9],rfl,by simp⟩
 | o::l,acc=>by
  simp only[b9]
  obtain⟨r,h1,h2,h3⟩:=zp l (acc++[o.after.toList.foldl (xk acc) 0])
  refine⟨_::r,by rw[h1,a9r];rfl,by simp[h2],λ i p hp k hk=>?_⟩
  cases i with
  | zero =>
   simp at hp
   subst hp
   have oS:Nat.testBit (o.after.toList.foldl (xk acc) 0) k=true:=by
    simpa [List.getD_eq_getElem?_getD] using hk
   rcases Hg acc k _ 0 oS with h|⟨e,he,hb,h⟩
   .simp at h
   .refine⟨e,he,hb,h.imp id λ h=>?_⟩
    have bS:e.on<acc.length:=by
     rcases a9t e.on acc.length with hl|hl
     .exact hl
     .simp[a8H,b0J hl] at h
    refine⟨by omega,?_⟩
    rw[a8H,b0s bS,<-a8H]
    exact h
  | succ i =>
   have:=h3 i p (by simpa using hp) k (by
    have e1:(acc++[o.after.toList.foldl (xk acc) 0]).length+i=acc.length+(i+1):=by simp;omega
    rw[e1,a9r]
    exact hk)
   obtain⟨e,he,hb,h⟩:=this
   refine⟨e,he,hb,h.imp id λ ⟨h1,h2⟩=>⟨by simp at h1;omega,?_⟩⟩
   rw[a9r] at h2
   exact h2
theorem Bi:∀ (l:List Nat) (i m0:Nat),m0<=i->qG l i m0<=i+l.length/\m0<=qG l i m0/\∀ j b,l[j]?=some b->qG l i m0<=i+j->b+1=2 ^ (i+j)
 | [],i,m0,h=>by simp[qG];exact h
 | b::l,i,m0,h=>by
  simp only[qG]
  split
  .rename_i hb
   have hb:=a8s hb
   obtain⟨h1,h2,h3⟩:=Bi l (i+1) m0 (by omega)
   refine⟨by simp;omega,h2,λ j b' hj hle=>?_⟩
   cases j with
   | zero=>simp at hj;subst hj;exact hb
   | succ j=>rw[show i+(j+1)=i+1+j by omega];exact h3 j b' (by simpa using hj) (by omega)
  .obtain⟨h1,h2,h3⟩:=Bi l (i+1) (i+1) (a9i _)
   refine⟨by simp;omega,by omega,λ j b' hj hle=>?_⟩
   cases j with
   | zero=>omega
   | succ j=>rw[show i+(j+1)=i+1+j by omega];exact h3 j b' (by simpa using hj) (by omega)
end Go.Proofs.YtmjfpcajohhbeaaGreatDoor

namespace Go.Proofs.YtmjfpcajohhbeaaGreatDoor
theorem xo(l:List Oper)(es:List NT)(s0:ah)(π:List Nat)(i:Nat):ej l es s0 (π++[i])=(ej l es s0 π).mH (cB l i) (es.getD i ⟨false, .any,none⟩).v (es.getD i ⟨false, .any,none⟩).ob:=by
 simp[ej,List.foldl_append]
theorem VF{E:Env}{l:List Oper}{m:Nat}{cf:List Nat}{s0:ah}:∀ (r:List Oper) (i:Nat) (es AR:List NT) (s s':ah),Trace E l m cf i r es s s'->(∀ j o,r[j]?=some o->l[i+j]?=some o)->AR.length=i ->
  s=ej l (AR++es) s0 (List.range i) ->
  (∀ j o,r[j]?=some o->Ry E l m (cf.getD (i+j) 0) (ej l (AR++es) s0 (List.range (i+j))) o ((AR++es).getD (i+j) ⟨false, .any,none⟩))/\s'=ej l (AR++es) s0 (List.range (i+r.length))
 | [],i,[],AR,s,s',h,_,_,hs=>by
  have h:s=s':=h
  subst h
  exact⟨by simp,by simpa using hs⟩
 | o::r,i,e::es,AR,s,s',h,hl,h0,hs=>by
  obtain⟨h1,h2⟩:=h
  have ho:l[i]?=some o:=hl 0 o rfl
  have XF:(AR++e::es).getD i ⟨false, .any,none⟩=e:=by simp[a8H,<-h0]
  have cw:s.mH o.dst e.v e.ob=ej l ((AR++[e])++es) s0 (List.range (i+1)):=by
   rw[a9r,List.range_succ,xo,b0X,XF,<-hs]
   simp[cB,ho]
  have ih:=VF r (i+1) es (AR++[e]) _ s' h2 (λ j p hj=>by
   have:=hl (j+1) p (by simpa using hj)
   rwa [show i+(j+1)=i+1+j by omega] at this) (by simp[h0]) cw
  rw[a9r,b0X] at ih
  refine⟨λ j p hj=>?_,by rw[ih.2];congr 2;simp;omega⟩
  cases j with
  | zero =>
   simp at hj
   subst hj
   rw[b0k,XF,<-hs]
   exact h1
  | succ j =>
   have:=ih.1 j p (by simpa using hj)
   rwa [show i+1+j=i+(j+1) by omega] at this
 | [],_,_::_,_,_,_,h,_,_,_=>h.elim
 | _::_,_,[],_,_,_,h,_,_,_=>h.elim
theorem xn:∀ (m:Nat) (π:List Nat),π.Nodup->(∀ k∈π,k<m)->π.length<=m
 | 0,π,_,h=>by
  cases π with
  | nil=>simp
  | cons k r=>exact absurd (h k (by simp)) (by omega)
 | m+1,π,hn,h=>by
  by_cases hm:m∈π
  .have h1:=xn m (π.erase m) (hn.erase m) (λ k hk=>by
    have h2:=(hn.mem_erase_iff).1 hk
    have:=h k h2.2
    have:=h2.1
    omega)
   have h3:=b0u hm
   have:0<π.length:=b0G hm
   omega
  .have:=xn m π hn (λ k hk=>by
    have:=h k hk
    have:k≠m:=λ e=>by subst e;exact hm hk
    omega)
   omega
section
variable {c:Ctx} {G:Gh} {s:ah} {a:Act} {w w':World}
theorem C1.eC{lk:Nat->Option aB}{v:AV}{x:Value}(h:C1 c G lk w v x){d:Nat}(hr:v.refs d=true):lk d≠none:=by
 cases v with
 | ptr i o =>
  have:=a8s (show Nat.beq i d=true from hr)
  subst this
  obtain⟨_,_,_,h3⟩:=h
  intro e
  rw[e] at h3
  cases h3
 | row i =>
  have:=a8s (show Nat.beq i d=true from hr)
  subst this
  obtain⟨_,h3,_⟩:=h
  intro e
  rw[e] at h3
  cases h3
 | eY i k o =>
  have:=a8s (show Nat.beq i d=true from hr)
  subst this
  obtain⟨_,_,_,_,_,_,_,h3,_⟩:=h
  intro e
  rw[e] at h3
  cases h3
 | aE i =>
  have:=a8s (show Nat.beq i d=true from hr)
  subst this
  intro e
  have h1:=h.1
  rw[e] at h1
  cases h1
 | sub i k o z =>
  have:=a8s (show Nat.beq i d=true from hr)
  subst this
  intro e
  have h1:=h.1
  rw[e] at h1
  cases h1
 | fF i k o z =>
  have:=a8s (show Nat.beq i d=true from hr)
  subst this
  intro e
  have h1:=h.1
  rw[e] at h1
  cases h1
 | mp i =>
  have:=a8s (show Nat.beq i d=true from hr)
  subst this
  intro e
  have h1:=h.2.1
  rw[e] at h1
  cases h1
 | agg cs=>exact h.elim
 | kW cs=>exact h.elim
 | dq f cs=>exact h.elim
 | _=>cases hr
theorem sj{d:Nat}:∀ {cs:List AV},AV.iz d cs=true->∃ v∈cs,v.refs d=true
 | v::r,h=>by
  simp only[AV.iz] at h
  split at h
  .rename_i hv;exact⟨v,by simp,hv⟩
  .obtain⟨u,hu,hr⟩:=sj h
   exact⟨u,by simp[hu],hr⟩
theorem aT.mem_left{α β:Type}{R:α->β->Prop}:∀ {Z9:List α} {bs:List β},aT R Z9 bs->∀ x∈Z9,∃ y,R x y
 | _::_,b::_,h,x,hx=>by
  rcases a8I.1 hx with rfl|hx
  .exact⟨b,h.1⟩
  .exact aT.mem_left h.2 x hx
theorem VR.eC{lk:Nat->Option aB}{v:AV}{x:Value}(h:VR c G lk w v x){d:Nat}(hr:v.refs d=true):lk d≠none:=by
 cases v with
 | aW u=>cases hr
 | agg cs =>
  obtain⟨l,_,hl⟩:=h
  obtain⟨u,hu,Gj⟩:=sj (show AV.iz d cs=true from hr)
  obtain⟨y,hy⟩:=hl.mem_left u hu
  exact hy.eC Gj
 | kW vs =>
  obtain⟨l,_,hl⟩:=h
  obtain⟨u,hu,Gj⟩:=sj (show AV.iz d vs=true from hr)
  obtain⟨y,hy⟩:=hl.mem_left u hu
  cases u with
  | aE i=>exact C1.eC (c:=c) (G:=G) (w:=w) (v := .aE i) hy Gj
  | agg cs =>
   obtain⟨l,_,hl⟩:=hy
   obtain⟨u,hu,Gj⟩:=sj (show AV.iz d cs=true from Gj)
   obtain⟨y,hy⟩:=hl.mem_left u hu
   exact hy.eC Gj
  | _=>first|(cases Gj;done)|exact hy.elim
 | dq f vs =>
  obtain⟨l,_,hl⟩:=h
  obtain⟨u,hu,Gj⟩:=sj (show AV.iz d vs=true from hr)
  obtain⟨y,hy⟩:=hl.mem_left u hu
  rcases hy.inv with ⟨v,rfl,_⟩|⟨cs,l,rfl,_,hl⟩|h1
  .cases Gj
  .obtain⟨u,hu,Gj⟩:=sj (show AV.iz d cs=true from Gj)
   obtain⟨y,hy⟩:=hl.mem_left u hu
   exact hy.eC Gj
  .exact h1.eC Gj
 | ptr i o=>exact C1.eC (c:=c) (G:=G) (w:=w) (v := .ptr i o) h hr
 | row i=>exact C1.eC (c:=c) (G:=G) (w:=w) (v := .row i) h hr
 | eY i k o=>exact C1.eC (c:=c) (G:=G) (w:=w) (v := .eY i k o) h hr
 | aE i=>exact C1.eC (c:=c) (G:=G) (w:=w) (v := .aE i) h hr
 | sub i k o z=>exact C1.eC (c:=c) (G:=G) (w:=w) (v := .sub i k o z) h hr
 | fF i k o z=>exact C1.eC (c:=c) (G:=G) (w:=w) (v := .fF i k o z) h hr
 | mp i=>exact C1.eC (c:=c) (G:=G) (w:=w) (v := .mp i) h hr
 | _=>cases hr
theorem Inv.Tk(h:Inv c G s a w){d:Nat}(hd:s.af d=none):(∀ i,(s.sl i).refs d=false)/\∀ i o,s.af i=some o->o.refs d=false:=by
 refine⟨λ i=>?_,λ i o ho=>?_⟩
 .cases hr:(s.sl i).refs d with
  | false=>rfl
  | true=>exact absurd hd ((h.aC i).eC hr)
 .cases o with
  | row e τ xs=>rfl
  | aE τ xs=>rfl
  | map m=>rfl
  | box cs =>
   cases hr:aB.refs d (.box cs) with
   | false=>rfl
   | true =>
    obtain⟨b,l,t,_,_,k3⟩:=h.aK i _ ho
    obtain⟨u,hu,Gj⟩:=sj (show AV.iz d cs=true from hr)
    obtain⟨y,hy⟩:=k3.mem_left u hu
    exact absurd hd (hy.eC Gj)
theorem Qb(h0:Inv c G s a w){d:Option Nat}{v:AV}{ob:Option aB}{a':Act}(KD:vL d=true)(vP:∀ i o,d=some i->ob=some o->s.af i=none)(h:zn c G s.sl s.aC.length s.af d a w v ob a' w') :
  ∃ G',Inv c G' (s.mH d v ob) a' w':=by
 obtain⟨x,S',rfl,hI,hx⟩:=h
 cases ob with
 | none =>
  refine⟨⟨S',G.η,G.φ⟩,?_⟩
  have:s.mH d v none=s.put d v:=by cases d<;>rfl
  rw[this]
  exact Inv.put (s:=s) hI hx
 | some o =>
  obtain⟨hL,hN,hb⟩:=hx
  have hd:∃ i,d=some i:=by cases o<;>first|exact⟨_,hL.choose_spec.1⟩|exact hL.elim
  obtain⟨i,rfl⟩:=hd
  have hi:=vP i o rfl rfl
  have zd:Inv c ⟨S',G.η,G.φ⟩ s a w':=hI
  obtain⟨Ze,hn2⟩:=zd.Tk hi
  have hor:o.refs i=false:=by
   cases o with
   | row e τ xs=>rfl
   | aE τ xs=>rfl
   | map m=>rfl
   | box cs =>
    cases hr:aB.refs i (.box cs) with
    | false=>rfl
    | true =>
     obtain⟨b,l,t,_,_,k3⟩:=hN
     obtain⟨u,hu,Gj⟩:=sj (show AV.iz i cs=true from hr)
     obtain⟨y,hy⟩:=k3.mem_left u hu
     exact absurd hi (hy.eC Gj)
  have tE:OR c ⟨S',λ j=>if j=i then x else G.η j,G.φ⟩ (λ j=>if j=i then some o else s.af j) w' i o:=by
   cases o with
   | box cs =>
    obtain⟨b,l,t,k1,k2,k3⟩:=hN
    refine⟨b,l,t,by simp[k1],k2,k3.imp λ u y hu hy=>hy.mono (λ j hj=>?_) (λ _ h=>h) (λ _ _=>rfl)⟩
    have fG:j≠i:=λ e=>by
     subst e
     have:=pr hu hj
     rw[show AV.iz j cs=aB.refs j (.box cs) from rfl,hor] at this
     cases this
    simp only[a8y fG]
    exact⟨fb.refl _,trivial⟩
   | row e τ xs =>
    obtain⟨l,k1,k2,k3⟩:=hN
    exact⟨l,by simpa using k1,k2,k3⟩
   | aE τ xs=>exact hN.elim
   | map m =>
    obtain⟨b,es,clock,k1,k2,k3⟩:=hN
    exact⟨b,es,clock,by simp[k1],k2,k3⟩
  have XL:dw (some o)=false:=by
   cases o with
   | aE τ xs=>exact hN.elim
   | _=>rfl
  have h4:=bz.newObj zd i o x hi Ze hn2 hor tE XL (.inr (a9u KD)) (λ b SA=>by
   obtain⟨q1,q2,q3⟩:=hb b SA
   have hle:=h0.aU.size
   refine⟨by omega,q3,q2,λ j p hjp QF=>?_,λ j τ xs hj QF=>?_⟩
   .have:=(h0.place j p b hjp QF).2.2
    omega
   .have:=(h0.bc.pl j τ xs b hj QF).2.2.1
    omega)
  refine⟨⟨S',λ j=>if j=i then x else G.η j,G.φ⟩,?_⟩
  unfold Inv
  have cG:(s.mH (some i) v (some o)).af=λ j=>if j=i then some o else s.af j:=by
   funext j
   rw[DB]
   by_cases hj:j=i
   .subst hj;simp
   .have:¬ (some i=some j):=by simp;exact λ e=>hj e.symm
    rw[a8y this,a8y hj]
  rw[Ni,cG,Ox]
  refine bz.put h4 ?_
  cases o with
  | box cs =>
   obtain⟨j,hj,rfl⟩:=hL
   simp only[a8o] at hj
   subst hj
   obtain⟨b,l,t,k1,k2,k3⟩:=hN
   exact⟨b,by simp[k1],k1,by simp[iy]⟩
  | row e τ xs =>
   obtain⟨j,hj,rfl⟩:=hL
   simp only[a8o] at hj
   subst hj
   obtain⟨l,k1,k2,k3⟩:=hN
   refine⟨by simp,by simp[isRow],?_⟩
   rcases k1.2 with ⟨rfl,_⟩|⟨g,cap,cur,rfl,_⟩
   .exact⟨_,_,_,rfl⟩
   .exact⟨_,_,_,rfl⟩
  | aE τ xs=>exact hN.elim
  | map m =>
   obtain⟨j,hj,rfl⟩:=hL
   simp only[a8o] at hj
   subst hj
   obtain⟨b,es,clock,k1,k2,k3⟩:=hN
   exact⟨by simp,by simp[KM],b,k1⟩
theorem YZ(h:Inv c G s a w)(o:Oper):Inv c G (s.fresh o) a w:=by
 unfold ah.fresh
 split
 .rename_i d _ _
  obtain⟨h1,_,_⟩:=h.clear d
  have cG:ah.af { s.cm d with aK:=bW d (s.cm d).aK }=λ i=>if i=d then none else (s.cm d).af i:=by
   funext i
   exact eZ d _ i
  unfold Inv
  show bz c G (s.cm d).sl (s.cm d).aC.length (ah.af { s.cm d with aK:=bW d (s.cm d).aK }) a w
  rw[cG,show (s.cm d).aC.length=s.aC.length from by simp[ah.cm]]
  exact h1
 .exact h
theorem Xv(s:ah)(o:Oper)(j:Nat):(s.af j=none->(s.fresh o).af j=none)/\(xG o.op=true->o.dst=some j->(s.fresh o).af j=none):=by
 unfold ah.fresh
 split
 .rename_i d hc hd
  have cG:ah.af { s.cm d with aK:=bW d (s.cm d).aK } j=if j=d then none else (s.af j).map (aB.kill d):=by
   show af (bW d (s.cm d).aK) j=_
   rw[eZ]
   have:=congrFun (eE s d) j
   show (if j=d then none else (s.cm d).af j)=_
   rw[this]
  rw[cG]
  refine⟨λ h=>by rw[h];simp,λ _ hj=>?_⟩
  rw[hd] at hj
  simp only[a8o] at hj
  rw[a8O hj.symm]
 .rename_i k9
  exact⟨λ h=>h,λ hc hd=>(k9 j hc hd).elim⟩
theorem Dk:∀ (l:List Oper) {s:ah},Inv c G s a w->Inv c G (l.foldl ah.fresh s) a w
 | [],_,h=>h
 | o::r,_,h=>Dk r (YZ h o)
theorem AT:∀ (l:List Oper) (s:ah) (j:Nat),(s.af j=none->(l.foldl ah.fresh s).af j=none)/\(∀ o∈l,xG o.op=true->o.dst=some j->(l.foldl ah.fresh s).af j=none)
 | [],s,j=>⟨λ h=>h,by simp⟩
 | o::r,s,j=>by
  obtain⟨h1,h2⟩:=AT r (s.fresh o) j
  obtain⟨h3,h4⟩:=Xv s o j
  refine⟨λ h=>h1 (h3 h),λ p hp hc hd=>?_⟩
  rcases a8I.1 hp with rfl|hp
  .exact h1 (h4 hc hd)
  .exact h2 p hp hc hd
theorem R5{E:Env}{lk:Nat->Option aB}{f:FuncId}{Ts:List TypeId}{vs:List AV}{vc:Vc}{v:AV}{ob:Option aB}(h:Hs E lk f Ts vs=some (vc,v,ob)):ob=none:=by
 unfold Hs at h
 repeat' split at h
 all_goals first
  | (simp only[a8o,a8u] at h;exact h.2.2.symm)
  | cases h
theorem PZ{E:Env}{lk:Nat->Option aB}{g:AV}{Ts:List TypeId}{vs:List AV}{vc:Vc}{v:AV}{ob:Option aB}(h:B0 E lk g Ts vs=some (vc,v,ob)):ob=none:=by
 unfold B0 at h
 split at h
 .rename_i r hr
  repeat' split at hr
  all_goals first
   | (simp only[a8o] at hr h;subst hr;simp only[a8u] at h;exact h.2.2.symm)
   | cases hr
 .repeat' split at h
  all_goals first
   | (simp only[a8o,a8u] at h;exact h.2.2.symm)
   | cases h
theorem Na{E:Env}{lk:Nat->Option aB}{ev:Operand->AV}{o:Oper}{vc:Vc}{v:AV}{ob:aB}(h:K3 E lk ev o=some (vc,v,some ob)):xG o.op=true:=by
 unfold K3 at h
 split at h
 case h_4 T bE=>rw[bE];rfl
 case h_5 T x bE=>rw[bE];rfl
 case h_7 T n ps bE=>rw[bE];rfl
 case h_21 T bE=>rw[bE];rfl
 case h_19 T x y bE=>rw[bE];rfl
 case h_20 cl bE =>
  split at h
  .repeat' split at h
   all_goals first
    | (simp at h;done)
    | cases h
  .rename_i jQ
   rw[bE]
   simp[xG,jQ]
  .rename_i jQ
   repeat' (split at h)
   all_goals first|cases h|skip
  .exact absurd (R5 h) (by simp)
  .split at h
   .exact absurd (R5 h) (by simp)
   .exact absurd (PZ h) (by simp)
   .exact absurd (PZ h) (by simp)
   .cases h
  .cases h
 all_goals (repeat' split at h)
 all_goals first
  | (simp at h;done)
  | cases h
end
end Go.Proofs.YtmjfpcajohhbeaaGreatDoor

namespace Go.Proofs.YtmjfpcajohhbeaaGreatDoor
theorem FB{l:List Oper}{D:Nat->Prop}(hD:∀ (k:Nat),D k->∀ (o:Oper),l[k]?=some o->∀ e∈o.after.toList,Region.binds .any e=true->D e.on):∀ (i:Nat) (o:Oper),l[i]?=some o->(∀ e∈o.after.toList,Region.binds .any e=true->D e.on) ->
  ∀ k,Nat.testBit ((b9 l []).getD i 0) k=true->D k:=by
 obtain⟨r,h1,h2,h3⟩:=zp l []
 rw[h1]
 simp only[a8T,a8N,a9Z] at h3 ⊢
 intro i
 induction i using Nat.strongRecOn with
 | _ i ih =>
  intro o ho a6S k hk
  obtain⟨e,he,hb,h⟩:=h3 i o ho k hk
  have hde:=a6S e he hb
  rcases h with rfl|⟨bS,h⟩
  .exact hde
  .have hll:i<l.length:=(a9g.1 ho).1
   have hp:l[e.on]?=some (l[e.on]'(by omega)):=a8P (by omega)
   exact ih e.on bS _ hp (λ e' Cb cD=>hD e.on hde _ hp e' Cb cD) k h
theorem cb{l:List Oper}(h:backward l=true):∀ (i:Nat) (o:Oper),l[i]?=some o->∀ e∈o.after.toList,Region.binds .any e=true->e.on<i:=by
 intro i o ho e he hb
 unfold backward at h
 rw[a9a] at h
 have hi:i<l.length:=(a9g.1 ho).1
 have:=h i (by simpa using hi)
 rw[ho] at this
 simp only[a9a] at this
 have:=this e he
 rw[hb] at this
 simpa [Nat.blt_eq] using this
theorem FY:∀ {ds:List (Option Nat)},distinct ds=true->(∀ d∈ds,∃ t,d=some t)/\∀ (j k t:Nat),ds[j]?=some (some t)->ds[k]?=some (some t)->j=k
 | [],_=>⟨by simp,by simp⟩
 | none::_,h=>by cases h
 | some d::r,h=>by
  simp only[distinct] at h
  split at h
  .cases h
  .rename_i Xy
   obtain⟨h1,h2⟩:=FY h
   have k9:∀ x∈r,x≠some d:=by
    intro x hx e
    subst e
    rw[a9X] at Xy
    have:=Xy _ hx
    simp at this
   refine⟨λ x hx=>?_,λ j k t hj hk=>?_⟩
   .rcases a8I.1 hx with rfl|hx
    .exact⟨d,rfl⟩
    .exact h1 x hx
   .cases j with
    | zero =>
     simp at hj
     subst hj
     cases k with
     | zero=>rfl
     | succ k=>exact absurd rfl (k9 _ (List.mem_of_getElem? (by simpa using hk)))
    | succ j =>
     cases k with
     | zero =>
      simp at hk
      subst hk
      exact absurd rfl (k9 _ (List.mem_of_getElem? (by simpa using hj)))
     | succ k=>rw[h2 j k t (by simpa using hj) (by simpa using hk)]
theorem mem_ready{ops:Array Oper}{listed:Array Bool}{i:Nat}(hs:listed.size=ops.size):i∈Region.ready .any ops listed↔∃ o,ops[i]?=some o/\listed.getD i false=false/\∀ e∈o.after.toList,Region.binds .any e=true->listed.getD e.on false=true:=by
 unfold Region.ready
 simp only[a9O,b0E,a8r,a8J]
 constructor
 .rintro⟨hi,h1,h2⟩
  have ho:ops[i]?=some ops[i]:=a9H hi
  rw[ho] at h2
  simp only[b1n,b1e] at h2
  refine⟨_,ho,?_,λ e he hb=>?_⟩
  .have:i<listed.size:=by omega
   simpa [Array.getD_eq_getD_getElem?,this] using h1
  .rw[b1y] at h2
   have:=h2 e (by simpa using he)
   simpa [hb] using this
 .rintro⟨o,ho,h1,h2⟩
  have hi:i<ops.size:=(a9x.1 ho).1
  refine⟨hi,?_,?_⟩
  .have:i<listed.size:=by omega
   simpa [Array.getD_eq_getD_getElem?,this] using h1
  .rw[ho]
   simp only[b1n,b1e]
   rw[b1y]
   intro e he
   cases hb:Region.binds .any e with
   | false=>simp
   | true=>simp[h2 e (by simpa using he) hb]
theorem vt{listed:Array Bool}{i k:Nat}(hi:i<listed.size):(listed.setIfInBounds i true).getD k false=true↔listed.getD k false=true\/k=i:=by
 rw[a9n,a9n,b1F]
 by_cases h:i=k
 .subst h;simp[hi]
 .simp[h,Ne.symm h]
section
variable {c:Ctx} {G:Gh} {s:ah} {a:Act} {w w':World}
theorem LX(hE:bP c.P c.E){ops:Array Oper}{m:Nat}(dX:backward ops.toList=true)(sG:∀ j o,m<=j->ops.toList[j]?=some o->∀ k,k<j->Nat.testBit ((b9 ops.toList []).getD j 0) k=true)
  {Q:ah->Prop} {Q':Exit->Act->World->Prop} (hQ:∀ G s a w,Inv c G s a w->Q s->Q' .normal a w) :
  ∀ (fuel j:Nat) (kn:List (Nat×Bool)) (G:Gh) (s:ah) (a:Act) (w:World) (listed:Array Bool),m<=j->ops.size<=j+fuel->listed.size=ops.size->(∀ k,k<ops.size->(listed.getD k false=true↔k<j)) ->
   Inv c G s a w->gb c.E ops (ops.toList.drop j) kn Q s->wpAny c.P .any ops Q' fuel listed a w:=by
 intro fuel
 induction fuel with
 | zero =>
  intro j kn G s a w listed hmj hf cO hl hI hr
  have xR:ops.toList.drop j=[]:=b0F (by simp;omega)
  rw[xR] at hr
  refine⟨?_,hQ _ _ _ _ hI hr⟩
  apply b0S.2
  intro i hi
  obtain⟨o,ho,h1,_⟩:=(mem_ready cO).1 hi
  have bS:=(a9x.1 ho).1
  have:=(hl i bS).2 (by omega)
  rw[h1] at this
  cases this
 | succ fuel ih =>
  intro j kn G s a w listed hmj hf cO hl hI hr
  by_cases hj:j<ops.size
  .have ho:ops[j]?=some ops[j]:=a9H hj
   have a5w:ops.toList.drop j=ops[j]::ops.toList.drop (j+1):=by
    rw[List.drop_eq_getElem_cons (by simpa using hj)]
    simp
   rw[a5w] at hr
   constructor
   .intro xR
    have:j∈Region.ready .any ops listed:=(mem_ready cO).2 ⟨_,ho,by
     cases hb:listed.getD j false with
     | false=>rfl
     | true=>have:=(hl j hj).1 hb;omega,λ e he hb=>by
     have:=cb dX j ops[j] (by simp) e he hb
     exact (hl e.on (by omega)).2 this⟩
    rw[xR] at this
    cases this
   .intro i hi
    obtain⟨o,cE,h1,h2⟩:=(mem_ready cO).1 hi
    have Jb:=(a9x.1 cE).1
    have Wk:j<=i:=by
     rcases a9t i j with h|h
     .have:=(hl i Jb).2 h
      rw[h1] at this
      cases this
     .exact h
    have Cd:i=j:=by
     rcases a9t j i with h|h
     .have gG:=FB (l:=ops.toList) (D:=λ k=>k<j) (λ k hk o' cQ e he hb=>by
       have:=cb dX k o' cQ e he hb;omega) i o (by simpa using cE) (λ e he hb=>by
        have bS:=cb dX i o (by simpa using cE) e he hb
        exact (hl e.on (by omega)).1 (h2 e he hb)) j (sG i o (by omega) (by simpa using cE) j h)
      omega
     .omega
    subst Cd
    have hoe:o=ops[i]:=by rw[ho] at cE;exact (b0I cE).symm
    have Eg:∀ k,k<ops.size->((listed.setIfInBounds i true).getD k false=true↔k<i+1):=λ k hk=>by
     rw[vt (by omega),hl k hk];omega
    unfold wpOp
    simp only[ho]
    have qe:=C2 hE hI hr
    split at qe
    .rename_i hw
     rw[a8O hw]
     exact .inl (a9V (λ a' w' ⟨G',s',ry,h1,h2⟩=>ih (i+1) ry G' s' a' w' _ (by omega) (by omega) (by rw[a9I];exact cO) Eg h1 h2) (qe Q'))
    .rename_i hw
     rw[a8y hw]
     obtain⟨G',s',ry,h1,h2⟩:=qe
     exact ih (i+1) ry G' s' _ w _ (by omega) (by omega) (by rw[a9I];exact cO) Eg h1 h2
  .have xR:ops.toList.drop j=[]:=b0F (by simp;omega)
   rw[xR] at hr
   have ru:Region.ready .any ops listed=[]:=by
    apply b0S.2
    intro i hi
    obtain⟨o,ho,h1,_⟩:=(mem_ready cO).1 hi
    have bS:=(a9x.1 ho).1
    have:=(hl i bS).2 (by omega)
    rw[h1] at this
    cases this
   exact⟨λ _=>hQ _ _ _ _ hI hr,λ i hi=>by rw[ru] at hi;cases hi⟩
theorem I8{l:List Oper}{ops:Array Oper}(hl:ops.toList=l){bits:Nat}{o:Oper}{IJ:Bool}(h:Inv c G s a w)(hg:iC l bits s o IJ):Region.wanted o (yielded ops a.tmps)=IJ:=by
 unfold iC at hg
 split at hg
 .rename_i hn
  simp[Region.wanted,hn,hg]
 .rename_i g want hn
  obtain⟨t,v,h1,_,h3,h4⟩:=hg
  have hx:=bC h (.tmp t)
  rw[h3] at hx
  have hs:xM ops g=some t:=by
   unfold xM
   rw[<-h1]
   unfold cB
   rw[<-hl]
   simp
  unfold GV at h4
  split at h4
  .have hy:=KA (s:=s) hs hx
   simp[Region.wanted,hn,hy,h4]
  .have hy:=Ga (s:=s) hs hx
   simp[Region.wanted,hn,hy,h4]
  .exact h4.elim
theorem YC(hE:bP c.P c.E){ops:Array Oper}{m:Nat}{es:List NT}{s0:ah}(dX:backward ops.toList=true)(hm:m<=ops.size)
  (sG:∀ j o,m<=j->ops.toList[j]?=some o->∀ k,k<j->Nat.testBit ((b9 ops.toList []).getD j 0) k=true)
  (sH:∀ j k t,j<m->k<m->cB ops.toList j=some t->cB ops.toList k=some t->j=k)
  (a2r:∀ i o,i<m->ops.toList[i]?=some o->Ry c.E ops.toList m ((b9 ops.toList []).getD i 0) (ej ops.toList es s0 (List.range i)) o (es.getD i ⟨false, .any,none⟩))
  (KD:∀ i o,i<m->ops.toList[i]?=some o->vL o.dst=true) (tN:∀ i o t,i<m->ops.toList[i]?=some o->xG o.op=true->o.dst=some t->s0.af t=none)
  {Q:ah->Prop} {Q':Exit->Act->World->Prop} (hQ:∀ G s a w,Inv c G s a w->Q s->Q' .normal a w) {kn:List (Nat×Bool)} (Ja:∀ G a w,Inv c G (ej ops.toList es s0 (List.range m)) a w->gb c.E ops (ops.toList.drop m) kn Q (ej ops.toList es s0 (List.range m))) :
  ∀ (fuel:Nat) (π:List Nat) (G:Gh) (a:Act) (w:World) (listed:Array Bool),ops.size=π.length+fuel->π.Nodup->(∀ k∈π,k<m)->listed.size=ops.size->(∀ k,k<ops.size->(listed.getD k false=true↔k∈π)) ->
   (∀ k∈π,∀ o,ops.toList[k]?=some o->∀ e∈o.after.toList,Region.binds .any e=true->e.on∈π)->Inv c G (ej ops.toList es s0 π) a w->wpAny c.P .any ops Q' fuel listed a w:=by
 intro fuel
 induction fuel with
 | zero =>
  intro π G a w listed hf hn bS cO hl xP hI
  have hlen:=xn m π hn bS
  have nB:∀ k,k<m->k∈π:=λ k hk=>by
   cases hb:decide (k∈π) with
   | true=>exact a9e hb
   | false =>
    have:=xn m (k::π) (a9j.2 ⟨b0m hb,hn⟩) (λ j hj=>by
     rcases a8I.1 hj with rfl|hj
     .exact hk
     .exact bS j hj)
    simp at this
    omega
  suffices zd:Inv c G (ej ops.toList es s0 (List.range m)) a w from LX hE dX sG hQ 0 m kn G (ej ops.toList es s0 (List.range m)) a w listed (a9i _) (by omega) cO (λ k hk=>by rw[hl k hk];exact⟨bS k,nB k⟩) zd (Ja G a w zd)
  have heq:∀ t,(ej ops.toList es s0 π).sl t=(ej ops.toList es s0 (List.range m)).sl t/\(ej ops.toList es s0 π).af t=(ej ops.toList es s0 (List.range m)).af t:=λ t =>
   TL (bits:=2 ^ m - 1) sH bS (by simp) hn List.nodup_range (λ k hk _=>⟨nB k hk,by simpa using hk⟩) t (by
    unfold hidden
    rw[a9X]
    intro k hk
    simp only[b0E] at hk
    split
    .split
     .simp[b0H,hk]
     .simp
    .simp)
  unfold Inv at hI ⊢
  rw[MI] at hI ⊢
  rw[<-funext λ t=>(heq t).1,<-funext λ t=>(heq t).2]
  exact hI
 | succ fuel ih =>
  intro π G a w listed hf hn bS cO hl xP hI
  by_cases nB:∀ k,k<m->k∈π
  .suffices zd:Inv c G (ej ops.toList es s0 (List.range m)) a w from LX hE dX sG hQ (fuel+1) m kn G (ej ops.toList es s0 (List.range m)) a w listed (a9i _) (by have:=xn m π hn bS;omega) cO (λ k hk=>by rw[hl k hk];exact⟨bS k,nB k⟩) zd (Ja G a w zd)
   have heq:∀ t,(ej ops.toList es s0 π).sl t=(ej ops.toList es s0 (List.range m)).sl t/\(ej ops.toList es s0 π).af t=(ej ops.toList es s0 (List.range m)).af t:=λ t =>
    TL (bits:=2 ^ m - 1) sH bS (by simp) hn List.nodup_range (λ k hk _=>⟨nB k hk,by simpa using hk⟩) t (by
     unfold hidden
     rw[a9X]
     intro k hk
     simp only[b0E] at hk
     split
     .split
      .simp[b0H,hk]
      .simp
     .simp)
   unfold Inv at hI ⊢
   rw[MI] at hI ⊢
   rw[<-funext λ t=>(heq t).1,<-funext λ t=>(heq t).2]
   exact hI
  ·
   have hex:∃ k,k<m/\k∉π/\∀ j,j<k->j∈π:=by
    have:∀ n,(∃ k,k<n/\k<m/\k∉π)->∃ k,k<m/\k∉π/\∀ j,j<k->j∈π:=by
     intro n
     induction n with
     | zero=>rintro⟨k,hk,_⟩;omega
     | succ n ihn =>
      rintro⟨k,hk,hkm,AY⟩
      by_cases hs:∃ k,k<n/\k<m/\k∉π
      .exact ihn hs
      .refine⟨k,hkm,AY,λ j hj=>?_⟩
       cases hb:decide (j∈π) with
       | true=>exact a9e hb
       | false=>exact absurd ⟨j,by omega,by omega,b0m hb⟩ hs
    refine this m ?_
    have h1:∃ k,¬ (k<m->k∈π):=b2j.1 nB
    obtain⟨k,hk⟩:=h1
    have h2:=b1Q.1 hk
    exact⟨k,h2.1,h2.1,h2.2⟩
   obtain⟨k0,a0b,u9,XK⟩:=hex
   have XG:ops[k0]?=some (ops[k0]'(by omega)):=a9H (by omega)
   constructor
   .intro xR
    have:k0∈Region.ready .any ops listed:=(mem_ready cO).2 ⟨_,XG,by
     cases hb:listed.getD k0 false with
     | false=>rfl
     | true=>exact absurd ((hl k0 (by omega)).1 hb) u9,λ e he hb=>by
     have XJ:=cb dX k0 ops[k0] (by simp) e he hb
     exact (hl e.on (by omega)).2 (XK e.on XJ)⟩
    rw[xR] at this
    cases this
   .intro i hi
    obtain⟨o,cE,h1,h2⟩:=(mem_ready cO).1 hi
    have Jb:=(a9x.1 cE).1
    have eW:ops.toList[i]?=some o:=by simpa using cE
    have wX:i∉π:=λ hh=>by
     have:=(hl i Jb).2 hh
     rw[h1] at this
     cases this
    have SB:∀ e∈o.after.toList,Region.binds .any e=true->e.on∈π:=λ e he hb=>by
     have XJ:=cb dX i o eW e he hb
     exact (hl e.on (by omega)).1 (h2 e he hb)
    have Ef:=FB (l:=ops.toList) (D:=λ k=>k∈π) (λ k hk o' cQ e he hb=>xP k hk o' cQ e he hb) i o eW SB
    have u7:i<m:=by
     rcases a9t i m with h|h
     .exact h
     .exact absurd (Ef k0 (sG i o h eW k0 (by omega))) u9
    have Ms:=FB (l:=ops.toList) (D:=λ k=>k<i) (λ k hk o' cQ e he hb=>by
     have:=cb dX k o' cQ e he hb;omega) i o eW (λ e he hb=>cb dX i o eW e he hb)
    have KJ:=λ t hh=>TL (l:=ops.toList) (es:=es) (s0:=s0) (m:=m) (bits:=(b9 ops.toList []).getD i 0) (π:=π) (π':=List.range i) sH bS (by intro k hk;simp at hk;omega) hn b1x
     (λ k hk hb=>⟨Ef k hb,by simpa using Ms k hb⟩) t hh
    obtain⟨hg,cZ,Zh⟩:=a2r i o u7 eW
    have dc:Ug ops.toList m ((b9 ops.toList []).getD i 0) (ej ops.toList es s0 (List.range i))=Ug ops.toList m ((b9 ops.toList []).getD i 0) (ej ops.toList es s0 π):=by
     funext x
     cases x with
     | tmp t =>
      simp only[Ug]
      split
      .rfl
      .rename_i hh
       exact ((KJ t hh).1).symm
     | _=>rfl
    have cG:QM ops.toList m ((b9 ops.toList []).getD i 0) (ej ops.toList es s0 (List.range i))=QM ops.toList m ((b9 ops.toList []).getD i 0) (ej ops.toList es s0 π):=by
     funext t
     simp only[QM]
     split
     .rfl
     .rename_i hh
      exact ((KJ t hh).2).symm
    have hg':iC ops.toList ((b9 ops.toList []).getD i 0) (ej ops.toList es s0 π) o (es.getD i ⟨false, .any,none⟩).IJ:=by
     unfold iC at hg ⊢
     split
     .rename_i AZ
      simpa [AZ] using hg
     .rename_i g want AZ
      simp only[AZ] at hg
      obtain⟨t,b,q1,q2,q3,q4⟩:=hg
      refine⟨t,b,q1,q2,?_,q4⟩
      have hgm:g<m:=Nat.lt_trans (Ms g q2) u7
      have hh:hidden ops.toList m ((b9 ops.toList []).getD i 0) t=false:=by
       unfold hidden
       rw[a9X]
       intro k hk
       simp only[b0E] at hk
       split
       .rename_i d hd
        split
        .rename_i Gd
         have Gd:=a8s Gd
         subst Gd
         have:=sH k g d hk hgm hd q1
         subst this
         rw[q2];simp
        .simp
       .simp
      exact ((KJ t hh).1).trans q3
    have hw:=I8 (ops:=ops) rfl hI hg'
    have xQ:∀ (G':Gh) (a':Act) (w':World),Inv c G' (ej ops.toList es s0 (π++[i])) a' w'->wpAny c.P .any ops Q' fuel (listed.setIfInBounds i true) a' w':=by
     intro G' a' w' zd
     refine ih (π++[i]) G' a' w' _ (by simp;omega) ?_ ?_ (by rw[a9I];exact cO) ?_ ?_ zd
     .rw[a8S]
      exact⟨hn,by simp,λ x hx y hy=>by simp at hy;subst hy;exact λ e=>wX (e ▸ hx)⟩
     .intro k hk
      rcases a8t.1 hk with hk|hk
      .exact bS k hk
      .simp at hk;omega
     .intro k hk
      rw[vt (by omega),hl k hk]
      simp
     .intro k hk o' cQ e he hb
      rcases a8t.1 hk with hk|hk
      .exact b0v _ (xP k hk o' cQ e he hb)
      .simp at hk
       subst hk
       rw[eW] at cQ
       simp only[a8o] at cQ
       subst cQ
       exact b0v _ (SB e he hb)
    have Ok:cB ops.toList i=o.dst:=by simp[cB,eW]
    unfold wpOp
    simp only[cE]
    cases Mz:(es.getD i ⟨false, .any,none⟩).IJ with
    | true =>
     rw[Mz] at hw
     rw[a8O hw]
     obtain⟨vc,hq,fk⟩:=cZ Mz
     rw[dc,cG] at hq
     refine .inl (a9V ?_ (K4 hE hI (lk':=QM ops.toList m ((b9 ops.toList []).getD i 0) (ej ops.toList es s0 π)) ?_ ?_ hq fk))
     .intro a' w' hd
      obtain⟨G',wY⟩:=Qb hI (KD i o u7 eW) (λ t ob Gd QI=>by
       rw[QI] at hq
       have Y9:=Na hq
       have h0:=tN i o t u7 eW Y9 Gd
       have Ce:=(iT ops.toList es t π s0 (λ k hk hkd=>by
        have:=sH k i t (bS k hk) u7 hkd (by rw[Ok];exact Gd)
        subst this
        exact wX hk)).2
       rw[Ce,h0]) hd
      refine xQ G' a' w' ?_
      rw[xo,Ok]
      exact wY
     .intro id ob bf
      unfold QM at bf
      split at bf
      .cases bf
      .exact bf
     .intro x
      cases x with
      | tmp t =>
       simp only[Ug]
       split
       .trivial
       .exact bC hI (.tmp t)
      | const v=>exact bC hI (.const v)
      | global g=>exact bC hI (.global g)
      | func f=>exact bC hI (.func f)
    | false =>
     rw[Mz] at hw
     rw[hw]
     obtain⟨hv,QI⟩:=Zh Mz
     refine xQ G _ w ?_
     rw[xo,Ok,hv,QI,Ov]
     exact Inv.put (v := .eG) hI rfl
theorem SY{l:List Oper}{K:Prop}(h:Inv c G s a w):xm l s K->K:=by
 induction l with
 | nil=>exact λ h=>h
 | cons o r ih =>
  intro hk
  simp only[xm] at hk
  split at hk
  .exact ih (HA (h.aC _) hk)
  .exact ih hk
theorem RX(hE:bP c.P c.E)(lh:c.P.follows .mixedOrders=true){id:Nat}{ops:Array Oper}{Q:ah->Prop}{Q':Exit->Act->World->Prop}(hQ:∀ G s a w,Inv c G s a w->Q s->Q' .normal a w)
  (h:Inv c G s a w) (hd:RW c.E ops Q s):(Code.region id ops true).wp c.P Q' a w:=by
 unfold RW at hd
 simp only at hd
 split at hd
 case h_2=>exact hd.elim
 case h_1 hb =>
  simp only[a8r] at hb
  obtain⟨Mt,KB,dX⟩:=hb
  obtain⟨r,ha1,ha2,_⟩:=zp ops.toList []
  have Sy:(b9 ops.toList []).length=ops.size:=by rw[ha1];simpa using ha2
  obtain⟨hm1,_,hm3⟩:=Bi (b9 ops.toList []) 0 0 (a9i _)
  simp only[a9Z] at hm1 hm3
  rw[Sy] at hm1
  generalize hmd:qG (b9 ops.toList []) 0 0=m at *
  have sG:∀ j o,m<=j->ops.toList[j]?=some o->∀ k,k<j->Nat.testBit ((b9 ops.toList []).getD j 0) k=true:=by
   intro j o hmj ho k hk
   have hj:j<ops.size:=by have:=(List.getElem?_eq_some_iff.1 ho).1;simpa using this
   have hg:(b9 ops.toList [])[j]?=some ((b9 ops.toList [])[j]'(by omega)):=a8P (by omega)
   have:=hm3 j _ hg hmj
   rw[a8H,hg,b1e,show (b9 ops.toList [])[j]'(by omega)=2 ^ j - 1 by omega,b0H]
   simpa using hk
  obtain⟨_,Ok⟩:=FY KB
  have sH:∀ j k t,j<m->k<m->cB ops.toList j=some t->cB ops.toList k=some t->j=k:=by
   have get:∀ j t,j<m->cB ops.toList j=some t->((ops.toList.take m).map (·.dst))[j]?=some (some t):=by
    intro j t hj Mv
    unfold cB at Mv
    simp only[a9G] at Mv
    obtain⟨o,ho,XL⟩:=Mv
    rw[a9W,a9R,a8O hj,ho]
    simp[XL]
   intro j k t hj hk Mv hkt
   exact Ok j k t (get j t hj Mv) (get k t hk hkt)
  obtain⟨es,ry,s',Fb,hq⟩:=uH hd
  have hlen:(ops.toList.take m).length=m:=by simp;omega
  have SI:∀ j o,(ops.toList.take m)[j]?=some o->ops.toList[0+j]?=some o:=λ j o ho=>by
   rw[a9R] at ho
   split at ho
   .simpa using ho
   .cases ho
  obtain⟨ht1,ht2⟩:=VF (ops.toList.take m) 0 es [] _ s' Fb SI rfl rfl
  simp only[a8T,a9Z,hlen] at ht1 ht2
  subst ht2
  have hI0:Inv c G ((ops.toList.take m).foldl ah.fresh s) a w.drew:=Dk _ (bz.drew h)
  refine wp_region_any lh ?_
  refine YC hE (m:=m) (es:=es) (s0:=(ops.toList.take m).foldl ah.fresh s) dX hm1 sG sH ?_ (λ i o u7 ho=>a9a.1 Mt o (a9Q (by rw[a9R,a8O u7];exact ho))) ?_ hQ (kn:=ry) (λ G a w hI=>SY hI hq) ops.size [] G a _ _ (by simp) (by simp) (by simp) (by simp) ?_ (by simp) hI0
  .intro i o u7 ho
   exact ht1 i o (by rw[a9R,a8O u7];exact ho)
  .intro i o t u7 ho hc Gd
   exact (AT (ops.toList.take m) s t).2 o (a9Q (by rw[a9R,a8O u7];exact ho)) hc Gd
  .intro k hk
   simp[hk]
end
end Go.Proofs.YtmjfpcajohhbeaaGreatDoor

namespace Go.Proofs.YtmjfpcajohhbeaaGreatDoor
section
variable {w w':World}
theorem Rx.ctx{c c':Ctx}{S:Nat->Prop}{v:Arg}{x:Value}(h:Rx c S w v x)(cw:∀ b,St c S b->St c' S b):Rx c' S w v x:=by
 cases v with
 | ref v=>obtain⟨b,o,cs,h1,h2,h3⟩:=h;exact⟨b,o,cs,h1,cw b h2,h3⟩
 | val v=>exact h
 | fn f=>exact h
 | dq v=>exact h
 | own v=>exact h
 | box k=>exact h
theorem C1.ctx{c c':Ctx}(hP:c'.P=c.P){G:Gh}{lk:Nat->Option aB}{v:AV}{x:Value}(h:C1 c G lk w v x)(cw:∀ b,St c G.S b->St c' G.S b):C1 c' G lk w v x:=by
 cases v with
 | dn v=>obtain⟨b,o,cs,h1,h2,h3⟩:=h;exact⟨b,o,cs,h1,cw b h2,h3⟩
 | kI v=>obtain⟨f,iD,l,h1,h2,h3⟩:=h;exact⟨f,iD,l,h1,hP ▸ h2,h3.imp λ _ _ _ q=>q.ctx cw⟩
 | _=>exact h
theorem TR.ctx{c c':Ctx}(hP:c'.P=c.P){G:Gh}{lk:Nat->Option aB}{v:AV}{x:Value}(h:TR c G lk w v x)(cw:∀ b,St c G.S b->St c' G.S b):TR c' G lk w v x:=by
 cases v with
 | aE id=>exact (show C1 c G lk w (.aE id) x from h).ctx hP cw
 | dn v=>exact (show C1 c G lk w (.dn v) x from h).ctx hP cw
 | agg cs=>obtain⟨l,h1,h2⟩:=h;exact⟨l,h1,h2.imp λ _ _ _ q=>q.ctx hP cw⟩
 | aW v=>exact h
 | any=>trivial
 | _=>exact h.elim
theorem CR.ctx{c c':Ctx}(hP:c'.P=c.P){G:Gh}{lk:Nat->Option aB}{v:AV}{x:Value}(h:CR c G lk w v x)(cw:∀ b,St c G.S b->St c' G.S b):CR c' G lk w v x:=by
 cases v with
 | aW v=>exact h
 | agg cs=>obtain⟨l,h1,h2⟩:=h;exact⟨l,h1,h2.imp λ _ _ _ q=>q.ctx hP cw⟩
 | any=>exact (show C1 c G lk w (.any) x from h).ctx hP cw
 | eG=>exact (show C1 c G lk w (.eG) x from h).ctx hP cw
 | nil=>exact (show C1 c G lk w (.nil) x from h).ctx hP cw
 | dn v=>exact (show C1 c G lk w (.dn v) x from h).ctx hP cw
 | ptr i o=>exact (show C1 c G lk w (.ptr i o) x from h).ctx hP cw
 | row i=>exact (show C1 c G lk w (.row i) x from h).ctx hP cw
 | eY i j o=>exact (show C1 c G lk w (.eY i j o) x from h).ctx hP cw
 | kW vs=>exact (show C1 c G lk w (.kW vs) x from h).ctx hP cw
 | fn f=>exact (show C1 c G lk w (.fn f) x from h).ctx hP cw
 | aE i=>exact (show C1 c G lk w (.aE i) x from h).ctx hP cw
 | sub i j o z=>exact (show C1 c G lk w (.sub i j o z) x from h).ctx hP cw
 | fF i j o z=>exact (show C1 c G lk w (.fF i j o z) x from h).ctx hP cw
 | dq f cs=>exact (show C1 c G lk w (.dq f cs) x from h).ctx hP cw
 | kI v=>exact (show C1 c G lk w (.kI v) x from h).ctx hP cw
 | mp i=>exact (show C1 c G lk w (.mp i) x from h).ctx hP cw
theorem VR.ctx{c c':Ctx}(hP:c'.P=c.P){G:Gh}{lk:Nat->Option aB}{v:AV}{x:Value}(h:VR c G lk w v x)(cw:∀ b,St c G.S b->St c' G.S b):VR c' G lk w v x:=by
 cases v with
 | aW v=>exact h
 | agg cs=>obtain⟨l,h1,h2⟩:=h;exact⟨l,h1,h2.imp λ _ _ _ q=>q.ctx hP cw⟩
 | kW vs=>obtain⟨l,h1,h2⟩:=h;exact⟨l,h1,h2.imp λ _ _ _ q=>q.ctx hP cw⟩
 | dq f cs=>obtain⟨l,h1,h2⟩:=h;exact⟨l,h1,h2.imp λ _ _ _ q=>q.ctx hP cw⟩
 | any=>exact (show C1 c G lk w (.any) x from h).ctx hP cw
 | eG=>exact (show C1 c G lk w (.eG) x from h).ctx hP cw
 | nil=>exact (show C1 c G lk w (.nil) x from h).ctx hP cw
 | dn v=>exact (show C1 c G lk w (.dn v) x from h).ctx hP cw
 | ptr i o=>exact (show C1 c G lk w (.ptr i o) x from h).ctx hP cw
 | row i=>exact (show C1 c G lk w (.row i) x from h).ctx hP cw
 | eY i j o=>exact (show C1 c G lk w (.eY i j o) x from h).ctx hP cw
 | fn f=>exact (show C1 c G lk w (.fn f) x from h).ctx hP cw
 | aE i=>exact (show C1 c G lk w (.aE i) x from h).ctx hP cw
 | sub i j o z=>exact (show C1 c G lk w (.sub i j o z) x from h).ctx hP cw
 | fF i j o z=>exact (show C1 c G lk w (.fF i j o z) x from h).ctx hP cw
 | kI v=>exact (show C1 c G lk w (.kI v) x from h).ctx hP cw
 | mp i=>exact (show C1 c G lk w (.mp i) x from h).ctx hP cw
theorem OR.ctx{c c':Ctx}(hP:c'.P=c.P){G:Gh}{lk:Nat->Option aB}{id:Nat}{o:aB}(h:OR c G lk w id o)(cw:∀ b,St c G.S b->St c' G.S b):OR c' G lk w id o:=by
 cases o with
 | box cs=>obtain⟨b,l,t,h1,h2,h3⟩:=h;exact⟨b,l,t,h1,h2,h3.imp λ _ _ _ q=>q.ctx hP cw⟩
 | row e τ xs=>exact h
 | aE τ xs=>exact h
 | map m=>exact h
def Ctx.fz(c:Ctx)(w:World)(S:Nat->Prop)(Z:Nat->Prop):Ctx :=
 { c with w0:=w,X:=λ b=>((c.w0.heap.size<=b/\b<w.heap.size)\/c.X b)/\¬ Z b,S0:=S,Z:=λ b=>Z b\/c.Z b }
theorem Inv.fz{c:Ctx}{G:Gh}{s:ah}{a:Act}(h:Inv c G s a w){Z:Nat->Prop}(hZ:∀ b,Z b->xu c G s.af w b):Inv (c.fz w G.S Z) G s a w:=by
 have cw:∀ b,St c G.S b->St (c.fz w G.S Z) G.S b:=λ b hb=>by
  rcases hb with hb|⟨h1,h2,h3⟩
  .exact .inl hb
  .refine .inr ⟨a8G h1 h.aU.size,λ q=>q.1.elim (λ q=>by omega) h2,λ q=>q.elim (λ z=>(hZ b z).1.elim (λ q=>by omega) h2) h3⟩
 exact {
  defers:=h.defers,size:=h.size
  aU:=bN.refl _ _
  oE:=⟨λ b hb=>hb.1.elim (λ q=>q.2) λ q=>a8G (h.oE.1 b q) h.aU.size,λ g hg=>by
   obtain⟨_,h2,h3,_⟩:=h.oE.2 g hg
   obtain⟨g1,g2⟩:=h.sOk.2 g hg
   exact⟨g1,λ q=>q.1.elim (λ q=>by omega) h2,h.ez g g1,g2⟩⟩
  fE:=λ b _ _=>b0w
  sX:=λ b hb=>hb
  ez:=h.ez
  aC:=λ i=>(h.aC i).ctx (c:=c) (c':=c.fz w G.S Z) rfl cw
  aK:=λ id o ho=>(h.aK id o ho).ctx (c:=c) (c':=c.fz w G.S Z) rfl cw
  place:=λ id o b ho hb=>by
   obtain⟨h1,h2,h3⟩:=h.place id o b ho hb
   exact⟨.inr ⟨h1.imp (λ q=>⟨q,h3⟩) (λ q=>q),λ z=>(hZ b z).2.2.2.1 id o ho hb⟩,h2,h3⟩
  apart:=h.apart
  bc:={
   tr:=h.bc.tr,nd:=h.bc.nd,ap:=h.bc.ap
   pl:=λ id τ xs b ht hb=>by
    obtain⟨h1,h2,h3,h4⟩:=h.bc.pl id τ xs b ht hb
    exact⟨.inr ⟨h1.imp (λ q=>⟨q,h3⟩) (λ q=>q),λ z=>(hZ b z).2.2.2.2 id τ xs ht hb⟩,h2,h3,h4⟩ }
  root:=h.root,lj:=h.lj,dQ:=h.dQ,gu:=h.gu }
theorem Inv.a7G{c:Ctx}{G:Gh}{s:ah}{a:Act}{G':Gh}{s':ah}{a':Act}(h:Inv c G s a w){Z:Nat->Prop}(hZ:∀ b,Z b->xu c G s.af w b)(h':Inv (c.fz w G.S Z) G' s' a' w') :
  Inv c G' s' a' w'/\∀ b,Z b->w'.heap[b]?=w.heap[b]?/\xu c G' s'.af w' b:=by
 have cw:∀ b,St (c.fz w G.S Z) G'.S b->St c G'.S b:=λ b hb=>by
  rcases hb with hb|⟨h1,h2,h3⟩
  .exact .inl hb
  .have hz:¬ Z b:=λ z=>h3 (.inl z)
   refine .inr ⟨?_,λ q=>h2 ⟨.inr q,hz⟩,λ q=>h3 (.inr q)⟩
   rcases a9t b c.w0.heap.size with q|q
   .exact q
   .exact absurd ⟨.inl ⟨q,h1⟩,hz⟩ h2
 have back:∀ b,(w.heap.size<=b\/(c.fz w G.S Z).X b)->c.w0.heap.size<=b\/c.X b:=λ b hb=>by
  have:=h.aU.size
  exact hb.elim (λ q => .inl (by omega)) λ q=>q.1.elim (λ q => .inl q.1) .inr
 refine⟨{
  defers:=h'.defers,size:=h'.size
  aU:=h.aU.trans h'.aU λ i hi hx=>hx.1.elim (λ q=>by omega) (λ q=>q)
  oE:=h.oE
  fE:=λ b hb hx=>(h'.fE b (a8G hb h.aU.size) (λ q=>q.1.elim (λ q=>by omega) hx)).trans (h.fE b hb hx)
  sX:=λ b hb=>h'.sX b (h.sX b hb)
  ez:=h'.ez
  aC:=λ i=>(h'.aC i).ctx (c:=c.fz w G.S Z) (c':=c) rfl cw
  aK:=λ id o ho=>(h'.aK id o ho).ctx (c:=c.fz w G.S Z) (c':=c) rfl cw
  place:=λ id o b ho hb=>by
   obtain⟨h1,h2,h3⟩:=h'.place id o b ho hb
   exact⟨back b h1,h2,h3⟩
  apart:=h'.apart
  bc:={
   tr:=h'.bc.tr,nd:=h'.bc.nd,ap:=h'.bc.ap
   pl:=λ id τ xs b ht hb=>by
    obtain⟨h1,h2,h3,h4⟩:=h'.bc.pl id τ xs b ht hb
    exact⟨back b h1,h2,h3,h4⟩ }
  root:=h'.root,lj:=h'.lj,dQ:=h'.dQ,gu:=h'.gu },λ b z=>?_⟩
 obtain⟨z1,z2,z3,z4,z5⟩:=hZ b z
 have SF:¬ (c.fz w G.S Z).X b:=λ q=>q.2 z
 have k9:¬ (w.heap.size<=b\/(c.fz w G.S Z).X b):=λ q=>q.elim (λ q=>by omega) SF
 exact⟨h'.aU.block b z3 SF,z1,λ q=>z2 ((h'.fE b z3 SF).1 q),a8G z3 h'.aU.size,λ i o cE hb=>k9 (h'.place i o b cE hb).1,λ j τ xs hj hb=>k9 (h'.bc.pl j τ xs b hj hb).1⟩
end
end Go.Proofs.YtmjfpcajohhbeaaGreatDoor

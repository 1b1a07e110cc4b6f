/- Memory that is wholly the call's own: taken as a datum; turned in place by a call. -/
import Derived.Test.YtmdefiphdgcijaaDoorVmTree
set_option linter.unusedVariables false
set_option linter.unusedSimpArgs false
namespace Go.Proofs.YtmdefiphdgcijaaDoor
theorem a4g{α:Type}:∀ {l:List (Nat×α)} {id:Nat} {o:α},a0f l id=some o→(id,o)∈l
 | (k,p)::r,id,o,h=>by
  simp only[a0f] at h
  split at h
  ·rename_i hk
   have hk:=Nat.eq_of_beq_eq_true hk
   simp only[Option.some.injEq] at h
   subst hk h
   simp
  ·exact List.mem_cons_of_mem _ (a4g h)
theorem b7a{α:Type}:∀ {l:List (Nat×α)} {id:Nat} {o:α},(l.map (·.1)).Nodup→(id,o)∈l→a0f l id=some o
 | (k,p)::r,id,o,hd,h=>by
  simp only[List.map_cons,List.nodup_cons] at hd
  simp only[a0f]
  rcases List.mem_cons.1 h with e|h
  ·simp only[Prod.mk.injEq] at e
   obtain⟨rfl,rfl⟩:=e
   simp
  ·split
   ·rename_i hk
    have hk:=Nat.eq_of_beq_eq_true hk
    subst hk
    exact absurd (List.mem_map.2 ⟨_,h,rfl⟩) hd.1
   ·exact b7a hd.2 h
section
variable {c:Ctx} {G:Gh} {sl:Nat→AV} {n:Nat} {lk:Nat→Option a0d} {a:Act} {w w':World}
abbrev TE:=Value×List Nat×a0d
def teη(A:List (Nat×TE))(G:Gh)(i:Nat):Value:=match a0f A i with
 | some e=>e.1
 | none=>G.η i
def teφ(A:List (Nat×TE))(G:Gh)(i:Nat):List Nat:=match a0f A i with
 | some e=>e.2.1
 | none=>G.φ i
def teL(A:List (Nat×TE))(lk:Nat→Option a0d)(i:Nat):Option a0d:=match a0f A i with
 | some e=>some e.2.2
 | none=>lk i
structure e0k(G:Gh)(lk:Nat→Option a0d)(w':World)(id:Nat)(e:TE):Prop where
 ex:∃ τ xs xs' v l l',lk id=some (.tree τ xs)∧e.2.2 = .tree τ xs'∧G.η id = .tuple (v::l).toArray∧e.1 = .tuple (v::l').toArray∧a4l w' e.1 τ xs' e.2.1∧e.2.1.Nodup
theorem c2q.ofList{A:List (Nat×TE)}(hA:∀ p∈A,e0k G lk w' p.1 p.2)(hfoot:∀ p∈A,∀ b∈p.2.2.1,(∃ q∈A,b∈G.φ q.1)∨FrB c G lk w' b)(hap:∀ p∈A,∀ q∈A,∀ b∈p.2.2.1,b∈q.2.2.1→p.1=q.1)(hnd:(A.map (·.1)).Nodup)
  (hheap:∀ b,b<w.heap.size→(∀ p∈A,b∉G.φ p.1)→w'.heap[b]?=w.heap[b]?) (hos:w'.os=w.os) (htape:w'.tape=w.tape) (hout:w'.output=w.output) (hsize:w.heap.size≤w'.heap.size) :
  c2q c G lk (teL A lk) w w' (teη A G) (teφ A G) (fun i=>∃ e,a0f A i=some e) where
 same id hi:=by
  have:a0f A id=none:=by
   cases hx:a0f A id with
   | none=>rfl
   | some e=>exact absurd ⟨e,hx⟩ hi
  simp[teL,teη,teφ,this]
 tree id:=by
  rintro⟨e,he⟩
  obtain⟨τ,xs,xs',v,l,l',h1,h2,h3,h4,h5,h6⟩:=(hA _ (a4g he)).ex
  refine⟨τ,xs,xs',v,l,l',h1,?_,h3,?_,?_,?_⟩
  ·simp only[teL,he];rw[←h2]
  ·simp only[teη,he];exact h4
  ·simp only[teη,teφ,he];exact h5
  ·simp only[teφ,he];exact h6
 foot id b:=by
  rintro⟨e,he⟩ hb
  simp only[teφ,he] at hb
  rcases hfoot _ (a4g he) b hb with ⟨q,hq,hbq⟩|hfr
  ·exact .inl ⟨q.1,⟨q.2,b7a hnd hq⟩,hbq⟩
  ·exact .inr hfr
 apart id id' b:=by
  rintro⟨e,he⟩ ⟨e',he'⟩ hb hb'
  simp only[teφ,he] at hb
  simp only[teφ,he'] at hb'
  exact hap _ (a4g he) _ (a4g he') b hb hb'
 heap b hb hn:=hheap b hb fun p hp=>hn p.1 ⟨p.2,b7a hnd hp⟩
 os:=hos
 tape:=htape
 output:=hout
 size:=hsize
def InF(G:Gh)(lk:Nat→Option a0d)(ids:List Nat)(b:Nat):Prop :=
 ∃ id∈ids,(∃ τ xs,lk id=some (.tree τ xs)∧b∈G.φ id)∨∃ e τ xs,lk id=some (.row e τ xs)∧blk (G.η id)=some b
theorem InF.mono{ids ids':List Nat}{b:Nat}(h:InF G lk ids b)(hs:∀ i∈ids,i∈ids'):InF G lk ids' b:=by
 obtain⟨id,hi,h⟩:=h
 exact⟨id,hs id hi,h⟩
theorem a0l.inf_apart(h:a0l c G sl n lk a w){i j:List Nat}{b:Nat}(hi:InF G lk i b)(hj:InF G lk j b)(hd:∀ x∈i,∀ y∈j,x≠y):False:=by
 obtain⟨x,hx,h1⟩:=hi
 obtain⟨y,hy,h2⟩:=hj
 rcases h1 with ⟨τ,xs,k1,k2⟩|⟨e,τ,xs,k1,k2⟩<;>rcases h2 with ⟨τ',xs',m1,m2⟩|⟨e',τ',xs',m1,m2⟩
 ·exact hd x hx y hy (h.trees.ap x y τ τ' xs xs' b k1 m1 k2 m2)
 ·exact (h.trees.pl x τ xs b k1 k2).2.2.2 y _ m1 m2
 ·exact (h.trees.pl y τ' xs' b m1 m2).2.2.2 x _ k1 k2
 ·exact hd x hx y hy (h.apart x y _ _ b k1 m1 k2 m2)
theorem b5k{τ:Ty}(h:τ.scal=true)(y:τ.den):(τ.toD y).light=true:=by
 cases τ<;>first|rfl|cases h
theorem d8t:∀ {l:List D},(∀ d∈l,d.light=true)→D.lights l=true
 | [],_=>rfl
 | d::ds,h=>by
  simp only[D.lights,Bool.and_eq_true]
  exact⟨h d (by simp),d8t fun e he=>h e (List.mem_cons_of_mem _ he)⟩
theorem e2n{τ:Ty}(h:τ.plain=true)(y:τ.den):(τ.toD y).light=true:=by
 cases τ with
 | st s =>
  show (s.toD y).light=true
  rw[a0h.toD_cells]
  refine d8t fun d hd=>?_
  obtain⟨u,hu,rfl⟩:=List.mem_map.1 hd
  have ht:u.τ∈s.ctys:=by rw[←a0h.cells_tys s y];exact List.mem_map.2 ⟨u,hu,rfl⟩
  exact b5k (List.all_eq_true.1 h _ ht) u.x
 | slice t=>cases h
 | mv t=>cases h
 | ptr=>rfl
 | int k=>rfl
 | bool=>rfl
 | str=>rfl
theorem b9f(h:a0l c G sl n lk a w){τ:Ty}{v:AV}{x:Value}{y:τ.den}{ids:List Nat}(ht:a2i lk τ v=some (y,ids))(hv:C1 c G lk w v x):∃ fp,Ow w (τ.toD y) [x] fp∧fp.Nodup∧∀ b∈fp,InF G lk ids b:=by
 cases v with
 | imm u =>
  simp only[a2i] at ht
  split at ht
  ·rename_i y' hs hy
   simp only[Option.some.injEq,Prod.mk.injEq] at ht
   obtain⟨rfl,rfl⟩:=ht
   have e:=TV.as_some hy
   subst e
   exact⟨[],Ow.of_light _ (b5k hs _) hv.2,List.nodup_nil,by simp⟩
  ·cases ht
 | nil =>
  cases τ with
  | slice t =>
   simp only[a2i,Option.some.injEq,Prod.mk.injEq] at ht
   obtain⟨rfl,rfl⟩:=ht
   exact⟨[],⟨none,0,by rw[show x=_ from hv];rfl,by simp,by simp[maxLen],by simp, .inl ⟨rfl,⟨rfl,rfl⟩,rfl⟩⟩,List.nodup_nil,by simp⟩
  | _=>cases ht
 | tree id =>
  simp only[a2i] at ht
  split at ht
  ·rename_i τ' xs hl
   split at ht
   ·rename_i y' hy
    simp only[Option.some.injEq,Prod.mk.injEq] at ht
    obtain⟨rfl,rfl⟩:=ht
    have e:=TV.as_some hy
    cases e
    obtain⟨_,l,h2,_⟩:=hv
    exact⟨G.φ id,Ow.of_tr (h.trees.tr id τ' xs hl) h2,h.trees.nd id τ' xs hl,fun b hb=>⟨id,by simp, .inl ⟨τ',xs,hl,hb⟩⟩⟩
   ·cases ht
  ·cases ht
 | row id =>
  simp only[a2i] at ht
  split at ht
  ·rename_i e τ' xs hl
   split at ht
   ·rename_i y' hp hy
    simp only[Option.some.injEq,Prod.mk.injEq] at ht
    obtain⟨rfl,rfl⟩:=ht
    have e1:=TV.as_some hy
    cases e1
    obtain⟨hx,_,_⟩:=hv
    obtain⟨l,h1,h2,h3⟩:=h.objs id _ hl
    have hlight:∀ d∈xs.map τ'.toD,d.light=true:=fun d hd=>by
     obtain⟨z,_,rfl⟩:=List.mem_map.1 hd
     exact e2n hp z
    rcases h1.2 with ⟨hv',hn⟩|⟨g,cap,cur,hv',_,hh,hnc,hcm,hcs,htk⟩
    ·have hxs:xs=[]:=List.eq_nil_of_length_eq_zero hn
     subst hxs
     exact⟨[],⟨none,0,by rw[hx,hv'];rfl,by simp,by simp[maxLen],by simp, .inl ⟨rfl,⟨rfl,rfl⟩,rfl⟩⟩,List.nodup_nil,by simp⟩
    ·refine⟨[g],⟨some ⟨g,0,none⟩,cap,by rw[hx,hv'];simp,by simpa using hnc,hcm,by simpa using h3, .inr ⟨g,[],cur.toList,e,rfl,rfl,by simpa using hh,?_⟩⟩,by simp,fun b hb=>?_⟩
     ·have hr:=a0x.of_light (w:=w) (S:=G.S) (xs.map τ'.toD) (l:=l) (m:=cur.toList.drop (xs.length * τ'.size)) hlight h2
      rw[←htk,List.take_append_drop] at hr
      exact⟨by rw[Array.length_toList];exact hcs,hr⟩
     ·simp only[List.mem_singleton] at hb
      subst hb
      exact⟨id,by simp, .inr ⟨e,τ',xs,hl,by rw[hv'];rfl⟩⟩
   ·cases ht
  ·cases ht
 | _=>cases ht
theorem a3i{l1 l2:List Nat}(h1:l1.Nodup)(h2:l2.Nodup)(h3:∀ x∈l1,x∉l2):(l1++l2).Nodup:=by
 rw[List.nodup_append]
 exact⟨h1,h2,fun x hx y hy e=>h3 x hx (e ▸ hy)⟩
theorem d3d(h:a0l c G sl n lk a w):∀ {cs:List AV} {ts:List Ty} {us:List TV} {ids:List Nat} {l:List Value},b2v lk cs ts=some (us,ids)→a0g (C1 c G lk w) cs l→ids.Nodup →
  ∃ fp,a1t w (us.map TV.toD) l fp∧fp.Nodup∧(∀ b∈fp,InF G lk ids b)∧us.map TV.τ=ts
 | [],[],us,ids,l,ht,hl,_=>by
  simp only[b2v,Option.some.injEq,Prod.mk.injEq] at ht
  obtain⟨rfl,rfl⟩:=ht
  match l,hl with
  | [],_=>exact⟨[],⟨rfl,rfl⟩,List.nodup_nil,by simp,rfl⟩
 | cc::cs,t::ts,us,ids,l,ht,hl,hnd=>by
  simp only[b2v] at ht
  split at ht
  ·rename_i x i hx
   split at ht
   ·rename_i r j hr
    simp only[Option.some.injEq,Prod.mk.injEq] at ht
    obtain⟨rfl,rfl⟩:=ht
    match l,hl with
    | v::l,hl =>
     rw[List.nodup_append] at hnd
     obtain⟨n1,n2,n3⟩:=hnd
     obtain⟨f1,a1,a2,a3⟩:=b9f h hx hl.1
     obtain⟨f2,b1,b2,b3,b4⟩:=d3d h hr hl.2 n2
     refine⟨f1++f2,⟨v,l,f1,f2,rfl,rfl,a1,b1⟩,a3i a2 b2 fun b hb hb'=>h.inf_apart (a3 b hb) (b3 b hb') (fun x hx y hy=>n3 x hx y hy),fun b hb=>?_,by simp[b4]⟩
     rcases List.mem_append.1 hb with hb|hb
     ·exact (a3 b hb).mono fun k hk=>by simp[hk]
     ·exact (b3 b hb).mono fun k hk=>by simp[hk]
   ·cases ht
  ·cases ht
 | [],_::_,_,_,_,ht,_,_=>by cases ht
 | _::_,[],_,_,_,ht,_,_=>by cases ht
theorem b0b(h:a0l c G sl n lk a w){τ:Ty}{v:AV}{x:Value}{y:τ.den}{ids:List Nat}(ht:b0q lk τ v=some (y,ids))(hv:VR c G lk w v x)(hnd:ids.Nodup):∃ fp,OwV w ⟨τ,y⟩ x fp∧fp.Nodup∧∀ b∈fp,InF G lk ids b:=by
 have one:(∀ cs,v ≠ .agg cs)→a2i lk τ v=some (y,ids)→∃ fp,OwV w ⟨τ,y⟩ x fp∧fp.Nodup∧∀ b∈fp,InF G lk ids b:=by
  intro hna ht
  have hst:∀ s,τ ≠ .st s:=fun s e=>by
   subst e
   cases v with
   | imm u=>simp[a2i,Ty.scal] at ht
   | nil=>simp[a2i] at ht
   | tree id =>
    simp only[a2i] at ht
    split at ht
    ·split at ht
     ·rename_i hy
      have e:=TV.as_some hy
      cases e
     ·cases ht
    ·cases ht
   | row id =>
    simp only[a2i] at ht
    split at ht
    ·split at ht
     ·rename_i hy
      have e:=TV.as_some hy
      cases e
     ·cases ht
    ·cases ht
   | _=>cases ht
  have hc:C1 c G lk w v x:=by
   refine hv.toC1 ?_
   cases v with
   | imm u =>
    simp only[a2i] at ht
    split at ht
    ·rename_i hy
     have e:=TV.as_some hy
     subst e
     cases τ<;>first|rfl|exact absurd rfl (hst _)
    ·cases ht
   | nil=>rfl
   | tree id=>rfl
   | row id=>rfl
   | _=>cases ht
  obtain⟨fp,h1,h2,h3⟩:=b9f h ht hc
  refine⟨fp,?_,h2,h3⟩
  cases τ with
  | st s=>exact absurd rfl (hst s)
  | _=>exact h1
 cases v with
 | agg cs =>
  cases τ with
  | st s =>
   simp only[b0q] at ht
   split at ht
   ·rename_i us i hcs
    split at ht
    ·rename_i y' hy
     simp only[Option.some.injEq,Prod.mk.injEq] at ht
     obtain⟨rfl,rfl⟩:=ht
     obtain⟨l,rfl,hl⟩:=hv
     obtain⟨fp,h1,h2,h3,_⟩:=d3d h hcs hl hnd
     refine⟨fp,⟨l,rfl,?_⟩,h2,h3⟩
     rw[a0h.toD_cells,a0h.ofCells_some hy]
     exact h1
    ·cases ht
   ·cases ht
  | _=>cases ht
 | _=>exact one (by intro cs;simp) ht
theorem a1t.split:∀ (ds:List D) {l:List Value} {fp:List Nat} (i:Nat) (d:D),a1t w ds l fp→ds[i]?=some d →
  ∃ v f0 f1 f2,fp=f0++f1++f2∧l[i]?=some v∧Ow w d [v] f1∧∀ (w':World) (d':D) (v':Value) (f1':List Nat),(∀ b∈f0++f2,w'.heap[b]?=w.heap[b]?)→Ow w' d' [v'] f1'→a1t w' (ds.set i d') (l.set i v') (f0++f1'++f2)
 | [],_,_,_,_,_,hi=>by simp at hi
 | e::ds,_,_,0,d,h,hi=>by
  obtain⟨v,r,f1,f2,rfl,rfl,h3,h4⟩:=h
  simp at hi
  subst hi
  exact⟨v,[],f1,f2,by simp,rfl,h3,fun w' d' v' f1' hw hd=>⟨v',r,f1',f2,rfl,by simp,hd,a1t.keep ds h4 fun b hb=>hw b (by simp[hb])⟩⟩
 | e::ds,_,_,i+1,d,h,hi=>by
  obtain⟨v,r,g1,g2,rfl,rfl,h3,h4⟩:=h
  obtain⟨u,f0,f1,f2,rfl,k1,k2,k3⟩:=a1t.split ds i d h4 (by simpa using hi)
  refine⟨u,g1++f0,f1,f2,by simp,by simpa using k1,k2,fun w' d' v' f1' hw hd=>?_⟩
  exact⟨v,r.set i v',g1,f0++f1'++f2,rfl,by simp,Ow.keep e h3 fun b hb=>hw b (by simp[hb]),k3 w' d' v' f1' (fun b hb=>hw b (by simp at hb ⊢;rcases hb with hb|hb<;>simp[hb])) hd⟩
theorem d6b(v:AV):v.killSub=v∨v.killSub = .any:=by unfold AV.killSub;split<;>simp
theorem c9s(v:AV):v.killSub.subs=false:=by
 unfold AV.killSub
 split
 ·rfl
 ·assumption
theorem d6y:∀ cs:List AV,AV.subsL (cs.map AV.killSub)=false
 | []=>rfl
 | v::r=>by simp only[List.map_cons,AV.subsL,c9s];exact d6y r
theorem C1.killSub{v:AV}{x:Value}(h:C1 c G lk w v x):C1 c G lk w v.killSub x:=by
 rcases d6b v with e|e
 ·rw[e];exact h
 ·rw[e];trivial
theorem d0t(o:Option a0d):a2p o (o.map a0d.killSub):=by
 refine⟨fun h=>?_,fun e τ xs h=>⟨e,xs,by rw[h];rfl,Nat.le_refl _⟩,fun h=>?_,fun h=>?_⟩
 ·match o,h with
  | some (.box cs),_=>rfl
 ·match o,h with
  | some (.tree τ xs),_=>rfl
 ·match o,h with
  | some (.map m),_=>rfl
theorem c0r{o:Option a0d}{τ:Ty}{xs:List τ.den}(h:o.map a0d.killSub=some (.tree τ xs)):o=some (.tree τ xs):=by
 match o,h with
 | some (.tree τ' xs'),h=>exact h
 | some (.box _),h=>cases h
 | some (.row ..),h=>cases h
theorem a0l.noSubs(h:a0l c G sl n lk a w):a0l c G (fun i=>(sl i).killSub) n (fun i=>(lk i).map a0d.killSub) a w:=by
 have h1:a0l c G (fun i=>(sl i).killSub) n lk a w:=h.forget fun i=>d6b (sl i)
 exact {
  defers:=h1.defers,size:=h1.size,keep:=h1.keep,xLt:=h1.xLt,sOld:=h1.sOld,sX:=h1.sX,sLt:=h1.sLt
  slots:=fun i=>(h1.slots i).mono (fun j _=>⟨d0t _,rfl⟩) (fun _ h=>h) (fun _ _=>rfl)
  objs:=fun i o ho=>by
   rw[Option.map_eq_some_iff] at ho
   obtain⟨o',ho',rfl⟩:=ho
   have hk:OR c G lk w i o'.killSub:=by
    have:=h1.objs i o' ho'
    cases o' with
    | box cs =>
     obtain⟨b,l,t,k1,k2,k3⟩:=this
     exact⟨b,l,t,k1,k2,a0g.map_left _ (k3.imp fun u y _ hy=>hy.killSub)⟩
    | row e τ xs=>exact this
    | tree τ xs=>exact this
    | map m=>exact this
   exact hk.mono rfl (fun _ _=>rfl) (fun j _=>⟨d0t _,rfl⟩) (fun _ h=>h) (fun _ _=>rfl)
  place:=fun i o b ho hb=>by
   rw[Option.map_eq_some_iff] at ho
   obtain⟨o',ho',rfl⟩:=ho
   exact h1.place i o' b ho' hb
  apart:=fun i j o o' b ho ho' hb hb'=>by
   rw[Option.map_eq_some_iff] at ho ho'
   obtain⟨p,hp,rfl⟩:=ho
   obtain⟨q,hq,rfl⟩:=ho'
   exact h1.apart i j p q b hp hq hb hb'
  trees:=h1.trees.sub (fun i τ xs k=>c0r k) (fun i o k=>by
   rw[Option.map_eq_some_iff] at k
   obtain⟨p,hp,_⟩:=k
   exact⟨p,hp⟩)
  root:=fun i v hr ht=>h1.root i v hr (by
   match hl:lk i,ht with
   | some (.tree ..),_=>rfl
   | some (.box _),ht=>simp[hl,a0d.killSub,a1i] at ht
   | some (.row ..),ht=>simp[hl,a0d.killSub,a1i] at ht
   | none,ht=>simp[hl,a1i] at ht)
  rng:=h1.rng
  rootB:=fun i v hr ht=>h1.rootB i v hr (by
   match hl:lk i,ht with
   | some (.box _),_=>rfl
   | some (.tree ..),ht=>simp[hl,a0d.killSub,a5k] at ht
   | some (.row ..),ht=>simp[hl,a0d.killSub,a5k] at ht
   | none,ht=>simp[hl,a5k] at ht)
  rngB:=h1.rngB }
end
section
variable {c:Ctx} {G:Gh} {s:a0c} {a:Act} {w w':World}
theorem d9i(s:a0c):s.noSubs.sl=fun i=>(s.sl i).killSub:=by
 funext i
 simp only[a0c.sl,a0c.noSubs,List.getD_eq_getElem?_getD,List.getElem?_map]
 cases s.slots[i]?<;>rfl
theorem a8k(s:a0c):s.noSubs.look=fun i=>(s.look i).map a0d.killSub:=by
 funext i;exact c6q _ _ _
theorem Inv.noSubs(h:Inv c G s a w):Inv c G s.noSubs a w∧(∀ i,(s.noSubs.sl i).subs=false)∧∀ id cs,s.noSubs.look id=some (.box cs)→AV.subsL cs=false:=by
 refine⟨?_,fun i=>by rw[d9i];exact c9s _,fun id cs hid=>?_⟩
 ·unfold Inv
  rw[d9i,a8k,show s.noSubs.slots.length=s.slots.length from by simp[a0c.noSubs]]
  exact a0l.noSubs h
 ·rw[a8k] at hid
  simp only[Option.map_eq_some_iff] at hid
  obtain⟨o,_,ho⟩:=hid
  cases o with
  | box cs'=>cases ho;exact d6y cs'
  | row e τ xs=>cases ho
  | tree τ xs=>cases ho
  | map m=>cases ho
theorem Inv.turned(h:Inv c G s a w){A:List (Nat×TE)}(hA:∀ p∈A,e0k G s.look w' p.1 p.2)(hfoot:∀ p∈A,∀ b∈p.2.2.1,(∃ q∈A,b∈G.φ q.1)∨FrB c G s.look w' b)(hap:∀ p∈A,∀ q∈A,∀ b∈p.2.2.1,b∈q.2.2.1→p.1=q.1)(hnd:(A.map (·.1)).Nodup)
  {F:Nat→Prop} (hk:a1p F w w') (hF:∀ b,F b→∃ p∈A,b∈G.φ p.1) {t:a0c} (hts:t.slots=s.noSubs.slots) (htl:∀ i,t.look i=teL A s.noSubs.look i) {d:Option Nat} {v:AV} {x:Value} (hv:∀ G' lk,VR c G' lk w' v x) :
  ∃ G',Inv c G' (t.put d v) (a.put d x) w':=by
 obtain⟨h1,h2,h3⟩:=h.noSubs
 have hA':∀ p∈A,e0k G s.noSubs.look w' p.1 p.2:=fun p hp=>by
  obtain⟨τ,xs,xs',v,l,l',k1,k2⟩:=(hA p hp).ex
  exact⟨τ,xs,xs',v,l,l',by rw[a8k];simp[k1,a0d.killSub],k2⟩
 have hfoot':∀ p∈A,∀ b∈p.2.2.1,(∃ q∈A,b∈G.φ q.1)∨FrB c G s.noSubs.look w' b:=fun p hp b hb=>(hfoot p hp b hb).imp id fun ⟨q1,q2,q3,q4,q5⟩ =>
  ⟨q1,q2,q3,fun i o hi=>by
   rw[a8k] at hi
   simp only[Option.map_eq_some_iff] at hi
   obtain⟨o',ho',_⟩:=hi
   exact q4 i o' ho',fun j τ xs hj=>q5 j τ xs (by rw[a8k] at hj;exact c0r hj)⟩
 have T:=c2q.ofList (c:=c) (w:=w) hA' hfoot' hap hnd (fun b hb hn=>hk.block b hb fun hf=>by
  obtain⟨p,hp,hbp⟩:=hF b hf
  exact hn p hp hbp) hk.os hk.tape hk.output hk.size
 have hI:=a0l.turn h1 T h2 h3
 refine⟨_,Inv.put (G:=⟨G.S,teη A G,teφ A G⟩) ?_ (hv _ _)⟩
 unfold Inv
 rw[show t.sl=s.noSubs.sl from by funext i;simp only[a0c.sl,hts],show t.look=teL A s.noSubs.look from funext htl,hts]
 exact hI
theorem d1x(id:Nat)(e:TE)(lk:Nat→Option a0d)(i:Nat):teL [(id,e)] lk i=if i=id then some e.2.2 else lk i:=by
 unfold teL
 simp only[a0f]
 by_cases hi:i=id
 ·subst hi;simp
 ·have:Nat.beq id i=false:=by
   cases hb:Nat.beq id i with
   | false=>rfl
   | true=>exact absurd (Nat.eq_of_beq_eq_true hb).symm hi
  simp[this,hi]
theorem a4o(s:a0c)(id:Nat)(τ:Ty)(xs:List τ.den)(i:Nat):(s.setTree id τ xs).look i=if i=id then some (.tree τ xs) else s.look i:=by
 show a0f ((id,_)::a0v id s.objs) i=_
 rw[a2j,a3f]
 by_cases hi:i=id
 ·simp[hi]
 ·simp[hi];rfl
theorem d0p{lk:Nat→Option a0d}{k:Int}(h:a0e k):VR c G lk w (.imm ⟨.int .i64,k⟩) (.int .i64 k):=by
 refine⟨rfl,?_⟩
 simp only[IntKind.min,IntKind.max,IntKind.signed,IntKind.bits,if_true]
 obtain⟨q1,q2⟩:=h
 constructor<;>omega
theorem d7p(h:Inv c G s a w){b:Nat}(h1:w.heap.size≤b)(h2:b<w'.heap.size):FrB c G s.look w' b:=by
 have:=h.keep.size
 refine⟨.inl (by omega),fun hs=>by have:=h.sLt b hs;omega,h2,fun i o hi hbi=>by have:=(h.place i o b hi hbi).2.2;omega,fun j τ xs hj hbj=>by have:=(h.trees.pl j τ xs b hj hbj).2.2.1;omega⟩
theorem d7t(hE:a0r c.P c.E)(h:Inv c G s a w){o:Oper}{f:FuncId}{τ:Ty}{g:(Ty.slice τ).den→Int→Vc×(Ty.slice τ).den×Int}(hm:c.E.mark f=some ⟨.slice τ,g⟩){id:Nat}{xs:List τ.den}(hid:s.look id=some (.tree τ xs)){k:Int}{v z:Value}{d:Nat}
  (hv:VR c G s.look w (.tree id) v) (hz:VR c G s.look w (.imm ⟨.int .i64,k⟩) z) (hpre:(g xs k).1.ok) (hd:o.dst=some d) (hrun:a5p c.P f→(execOp a.eval o).run c.P w = .ok (.enter f [v,z].toArray) w) {Q:Exit→Act→World→Prop} :
  o.wp c.P a w (fun a' w'=>∃ G',Inv c G' ((s.noSubs.setTree id τ (g xs k).2.1).put (some d) (.imm ⟨.int .i64,(g xs k).2.2⟩)) a' w') Q:=by
 obtain⟨hfn,hcall⟩:=hE.mark f _ hm
 obtain⟨hz1,hz2,hz3⟩:=hz
 simp only[List.cons.injEq,and_true] at hz1
 subst hz1
 obtain⟨_,l,hη,hsl⟩:=hv
 have hO:=Ow.of_tr (h.trees.tr id τ xs hid) hη
 have hkin:a0e k:=by
  simp only[IntKind.min,IntKind.max,IntKind.signed,IntKind.bits,if_true] at hz2 hz3
  constructor<;>omega
 unfold Oper.wp
 rw[hrun hfn]
 simp only[Oper.upon]
 refine (hcall xs k w v (G.φ id) hpre hkin (h.gokM fun b hb=>(h.trees.pl id τ xs b hid hb).2.1) hO (h.trees.nd id τ xs hid) fun b hb=>(h.trees.pl id τ xs b hid hb).2.2.1).mono ?_
 rintro e w' ⟨rfl,hin,hk,fp',hO',hnd',hsub⟩
 obtain⟨l',hT,_⟩:=a4l.of_ow (τ:=τ) hO'
 rw[hd]
 show ∃ G',Inv c G' ((s.noSubs.setTree id τ (g xs k).2.1).put (some d) (.imm ⟨.int .i64,(g xs k).2.2⟩)) (a.put (some d) (.int .i64 (g xs k).2.2)) w'
 refine h.turned (w':=w') (t:=s.noSubs.setTree id τ (g xs k).2.1) (A:=[(id,(.tuple (v::l').toArray,fp', .tree τ (g xs k).2.1))]) ?_ ?_ ?_ (by simp) hk (fun b hb=>⟨_,List.mem_singleton.2 rfl,hb⟩) rfl (fun i=>?_) (fun G' lk=>d0p hin)
 ·intro p hp
  simp only[List.mem_singleton] at hp
  subst hp
  exact⟨τ,xs,_,v,l,l',hid,rfl,hη,rfl,hT,hnd'⟩
 ·intro p hp b hb
  simp only[List.mem_singleton] at hp
  subst hp
  rcases hsub b hb with q|q
  ·exact .inl ⟨_,List.mem_singleton.2 rfl,q⟩
  ·exact .inr (d7p h q.1 q.2)
 ·intro p hp q hq b _ _
  simp only[List.mem_singleton] at hp hq
  rw[hp,hq]
 ·rw[d1x,a4o]
theorem b9b{f0 f1 f2 f1':List Nat}(h:(f0++f1++f2).Nodup)(h1:f1'.Nodup)(hs:∀ b∈f1',b∈f1∨(b∉f0∧b∉f2)):(f0++f1'++f2).Nodup:=by
 rw[List.nodup_append,List.nodup_append] at h
 obtain⟨⟨a1,a2,a3⟩,a4,a5⟩:=h
 refine a3i (a3i a1 h1 fun x hx hx'=>(hs x hx').elim (fun q=>a3 x hx x q rfl) fun q=>q.1 hx) a4 fun x hx hx'=>?_
 rcases List.mem_append.1 hx with hx|hx
 ·exact a5 x (by simp[hx]) x hx' rfl
 ·exact (hs x hx).elim (fun q=>a5 x (by simp[q]) x hx' rfl) fun q=>q.2 hx'
theorem d6r{w:World}{τ τm:Ty}{x:τ.den}{off:Nat}{u:TV}(hu:TV.part ⟨τ,x⟩ off τm=some u)(hst:τm.agg=false){ce:List Value}{fp:List Nat}(hO:Ow w (τ.toD x) ce fp) :
  ∃ v f0 f1 f2,fp=f0++f1++f2∧ce[off]?=some v∧Ow w u.toD [v] f1∧∀ (w':World) (u':TV) (y:τ.den) (v':Value) (f1':List Nat),a7t τ x off u'=some y→(∀ b∈f0++f2,w'.heap[b]?=w.heap[b]?)→Ow w' u'.toD [v'] f1'→Ow w' (τ.toD y) (ce.set off v') (f0++f1'++f2):=by
 cases τ with
 | st s =>
  have hcell:(s.cells x)[off]?=some u:=by
   unfold TV.part at hu
   split at hu
   ·rename_i hb
    simp only[Bool.and_eq_true] at hb
    have:=of_decide_eq_true hb.2
    have e:Ty.st s=τm:=this
    subst e
    cases hst
   ·split at hu
    ·rename_i z hz
     split at hu
     ·simp only[Option.some.injEq] at hu
      subst hu
      exact hz
     ·cases hu
    ·cases hu
  rw[show Ty.toD (.st s) x=s.toD x from rfl,a0h.toD_cells] at hO
  obtain⟨v,f0,f1,f2,h1,h2,h3,h4⟩:=a1t.split _ off u.toD hO (by rw[List.getElem?_map,hcell];rfl)
  refine⟨v,f0,f1,f2,h1,h2,h3,fun w' u' y v' f1' hp hw hO'=>?_⟩
  simp only[a7t,hcell] at hp
  split at hp
  ·have hy:=a0h.ofCells_some hp
   rw[show Ty.toD (.st s) y=s.toD y from rfl,a0h.toD_cells,hy,List.map_set]
   exact h4 w' u'.toD v' f1' hw hO'
  ·cases hp
 | slice t =>
  have hoff:off=0∧u=⟨.slice t,x⟩:=by
   unfold TV.part at hu
   split at hu
   ·rename_i hb
    simp only[Bool.and_eq_true] at hb
    simp only[Option.some.injEq] at hu
    exact⟨Nat.eq_of_beq_eq_true hb.1,hu.symm⟩
   ·split at hu
    ·rename_i z hz
     cases off with
     | zero=>simp[TV.cells] at hz;subst hz;split at hu<;>simp_all
     | succ k=>simp[TV.cells] at hz
    ·cases hu
  obtain⟨rfl,rfl⟩:=hoff
  have hl:=Ow.length _ hO
  match ce,hl with
  | [v],_ =>
   refine⟨v,[],fp,[],by simp,rfl,hO,fun w' u' y v' f1' hp _ hO'=>?_⟩
   simp only[a7t] at hp
   have e:=TV.as_some hp
   subst e
   rw[List.nil_append,List.append_nil]
   exact hO'
 | mv t =>
  have hoff:off=0∧u=⟨.mv t,x⟩:=by
   unfold TV.part at hu
   split at hu
   ·rename_i hb
    simp only[Bool.and_eq_true] at hb
    simp only[Option.some.injEq] at hu
    exact⟨Nat.eq_of_beq_eq_true hb.1,hu.symm⟩
   ·split at hu
    ·rename_i z hz
     cases off with
     | zero=>simp[TV.cells] at hz;subst hz;split at hu<;>simp_all
     | succ k=>simp[TV.cells] at hz
    ·cases hu
  obtain⟨rfl,rfl⟩:=hoff
  have hl:=Ow.length _ hO
  rw[Ty.size_toD] at hl
  match ce,hl with
  | [v],_ =>
   refine⟨v,[],fp,[],by simp,rfl,hO,fun w' u' y v' f1' hp _ hO'=>?_⟩
   simp only[a7t] at hp
   have e:=TV.as_some hp
   subst e
   rw[List.nil_append,List.append_nil]
   exact hO'
 | ptr =>
  have hoff:off=0∧u=⟨.ptr,x⟩:=by
   unfold TV.part at hu
   split at hu
   ·rename_i hb
    simp only[Bool.and_eq_true] at hb
    simp only[Option.some.injEq] at hu
    exact⟨Nat.eq_of_beq_eq_true hb.1,hu.symm⟩
   ·split at hu
    ·rename_i z hz
     cases off with
     | zero=>simp[TV.cells] at hz;subst hz;split at hu<;>simp_all
     | succ k=>simp[TV.cells] at hz
    ·cases hu
  obtain⟨rfl,rfl⟩:=hoff
  have hl:=Ow.length _ hO
  rw[Ty.size_toD] at hl
  match ce,hl with
  | [v],_ =>
   refine⟨v,[],fp,[],by simp,rfl,hO,fun w' u' y v' f1' hp _ hO'=>?_⟩
   simp only[a7t] at hp
   have e:=TV.as_some hp
   subst e
   rw[List.nil_append,List.append_nil]
   exact hO'
 | int k =>
  have hoff:off=0∧u=⟨.int k,x⟩:=by
   unfold TV.part at hu
   split at hu
   ·rename_i hb
    simp only[Bool.and_eq_true] at hb
    simp only[Option.some.injEq] at hu
    exact⟨Nat.eq_of_beq_eq_true hb.1,hu.symm⟩
   ·split at hu
    ·rename_i z hz
     cases off with
     | zero=>simp[TV.cells] at hz;subst hz;split at hu<;>simp_all
     | succ k=>simp[TV.cells] at hz
    ·cases hu
  obtain⟨rfl,rfl⟩:=hoff
  have hl:=Ow.length _ hO
  match ce,hl with
  | [v],_ =>
   refine⟨v,[],fp,[],by simp,rfl,hO,fun w' u' y v' f1' hp _ hO'=>?_⟩
   simp only[a7t] at hp
   have e:=TV.as_some hp
   subst e
   rw[List.nil_append,List.append_nil]
   exact hO'
 | bool =>
  have hoff:off=0∧u=⟨.bool,x⟩:=by
   unfold TV.part at hu
   split at hu
   ·rename_i hb
    simp only[Bool.and_eq_true] at hb
    simp only[Option.some.injEq] at hu
    exact⟨Nat.eq_of_beq_eq_true hb.1,hu.symm⟩
   ·split at hu
    ·rename_i z hz
     cases off with
     | zero=>simp[TV.cells] at hz;subst hz;split at hu<;>simp_all
     | succ k=>simp[TV.cells] at hz
    ·cases hu
  obtain⟨rfl,rfl⟩:=hoff
  have hl:=Ow.length _ hO
  match ce,hl with
  | [v],_ =>
   refine⟨v,[],fp,[],by simp,rfl,hO,fun w' u' y v' f1' hp _ hO'=>?_⟩
   simp only[a7t] at hp
   have e:=TV.as_some hp
   subst e
   rw[List.nil_append,List.append_nil]
   exact hO'
 | str =>
  have hoff:off=0∧u=⟨.str,x⟩:=by
   unfold TV.part at hu
   split at hu
   ·rename_i hb
    simp only[Bool.and_eq_true] at hb
    simp only[Option.some.injEq] at hu
    exact⟨Nat.eq_of_beq_eq_true hb.1,hu.symm⟩
   ·split at hu
    ·rename_i z hz
     cases off with
     | zero=>simp[TV.cells] at hz;subst hz;split at hu<;>simp_all
     | succ k=>simp[TV.cells] at hz
    ·cases hu
  obtain⟨rfl,rfl⟩:=hoff
  have hl:=Ow.length _ hO
  match ce,hl with
  | [v],_ =>
   refine⟨v,[],fp,[],by simp,rfl,hO,fun w' u' y v' f1' hp _ hO'=>?_⟩
   simp only[a7t] at hp
   have e:=TV.as_some hp
   subst e
   rw[List.nil_append,List.append_nil]
   exact hO'
theorem e3d(l:List Value)(o n k:Nat)(v:Value)(hk:k<n)(hl:o+n≤l.length):l.take o++((l.drop o).take n).set k v++l.drop (o+n)=l.set (o+k) v:=by
 conv=>rhs;rw[←List.take_append_drop o l]
 rw[List.set_append_right _ _ (by simp;omega),List.append_assoc]
 congr 1
 have e:o+k - (List.take o l).length=k:=by rw[List.length_take];omega
 rw[e]
 conv=>rhs;rw[←List.take_append_drop n (l.drop o)]
 rw[List.set_append_left _ _ (by rw[List.length_take,List.length_drop];omega),List.drop_drop]
theorem d9n{w:World}{η:Value}{τ τm:Ty}{xs:List τ.den}{fp:List Nat}(hT:a4l w η τ xs fp)(hnd:fp.Nodup){a0:Option Addr}{n cap:Nat}{l:List Value}(hη:η = .tuple (.slice a0 n cap::l).toArray){i off:Nat}(hi:i<n){u:TV}
  (hu:TV.part ⟨τ,xs.getD i τ.zero⟩ off τm=some u) (hst:τm.agg=false) (hoff:off<τ.size):n=xs.length ∧
  ∃ v f1,l[i * τ.size+off]?=some v∧Ow w u.toD [v] f1∧f1.Nodup∧(∀ b∈f1,b∈fp)∧∀ (w':World) (u':TV) (y:τ.den) (v':Value) (f1':List Nat),a7t τ (xs.getD i τ.zero) off u'=some y→(∀ b∈fp,b∉f1→(a0=some ⟨b,0,none⟩→∃ t,w'.heap[b]?=some (.cells (l.set (i * τ.size+off) v').toArray t (0,0)))∧(a0≠some ⟨b,0,none⟩→w'.heap[b]?=w.heap[b]?))→Ow w' u'.toD [v'] f1'→f1'.Nodup→(∀ b∈f1',b∈f1∨b∉fp) →
   ∃ fp',a4l w' (.tuple (.slice a0 n cap::l.set (i * τ.size+off) v').toArray) τ (xs.set i y) fp'∧fp'.Nodup∧∀ b∈fp',b∈fp∨b∈f1':=by
 obtain⟨v0,l0,a1,cap1,h1,h2,h3,h4,h5,h6⟩:=hT
 rw[hη] at h1
 simp only[Value.tuple.injEq] at h1
 have h1:(Value.slice a0 n cap::l)=v0::l0:=congrArg Array.toList h1
 simp only[List.cons.injEq] at h1
 obtain⟨hq,hq2⟩:=h1
 subst hq2
 rw[h2] at hq
 simp only[Value.slice.injEq] at hq
 obtain⟨rfl,rfl,rfl⟩:=hq
 rcases h6 with ⟨rfl,_,_⟩|⟨b,f,t,rfl,rfl,k1,k0,k2⟩
 ·simp at hi
 ·have hsz:∀ d∈xs.map τ.toD,d.size=τ.size:=by
   intro d hd
   obtain⟨z,_,rfl⟩:=List.mem_map.1 hd
   exact Ty.size_toD τ z
  obtain⟨g0,g1,g2,rfl,hlen,m1,m2⟩:=a0x.split (xs.map τ.toD) i (τ.toD (xs.getD i τ.zero)) k2 hsz (by simp[List.getD,hi])
  obtain⟨v,p0,p1,p2,rfl,q1,q2,q3⟩:=d6r hu hst m1
  have hvl:l[i * τ.size+off]?=some v:=by
   rw[List.getElem?_take,if_pos hoff,List.getElem?_drop] at q1
   exact q1
  rw[List.nodup_cons] at hnd
  obtain⟨hb,hnd⟩:=hnd
  have hnd1:(p0++p1++p2).Nodup:=by
   rw[List.nodup_append,List.nodup_append] at hnd
   exact hnd.1.2.1
  have hp1:p1.Nodup:=by
   rw[List.nodup_append,List.nodup_append] at hnd1
   exact hnd1.1.2.1
  refine⟨rfl,v,p1,hvl,q2,hp1,fun b hb=>by simp[hb],fun w' u' y v' f1' hp hw hO' hn' hs'=>?_⟩
  have dis:∀ c∈g0++(p0++p1++p2)++g2,c∉p1→w'.heap[c]?=w.heap[c]?:=fun c hc hn=>(hw c (List.mem_cons_of_mem _ hc) hn).2 fun e=>by
   simp only[Option.some.injEq,Addr.mk.injEq,and_true] at e
   subst e
   exact hb hc
  have hin:∀ c,c∈p1→c∈p0++p1++p2:=fun c hc=>by simp[hc]
  rw[List.nodup_append,List.nodup_append] at hnd
  obtain⟨⟨n1,n2,n3⟩,n4,n5⟩:=hnd
  have h0:∀ c∈g0++g2,c∉p1:=fun c hc hc'=>by
   rcases List.mem_append.1 hc with hc|hc
   ·exact n3 c hc c (hin c hc') rfl
   ·exact n5 c (List.mem_append.2 (.inr (hin c hc'))) c hc rfl
  have h00:∀ c∈p0++p2,c∉p1:=fun c hc hc'=>by
   rw[List.nodup_append,List.nodup_append] at hnd1
   rcases List.mem_append.1 hc with hc|hc
   ·exact hnd1.1.2.2 c hc c hc' rfl
   ·exact hnd1.2.2 c (by simp[hc']) c hc rfl
  have hy:=q3 w' u' y v' f1' hp (fun c hc=>dis c (by simp at hc ⊢;rcases hc with hc|hc<;>simp[hc]) (h00 c hc)) hO'
  have hrow:=m2 w' (τ.toD y) _ (p0++f1'++p2) (fun c hc=>dis c (by simp at hc ⊢;rcases hc with hc|hc<;>simp[hc]) (h0 c hc)) (by simp only[List.length_set,List.length_take,List.length_drop];omega) hy
  rw[e3d l _ _ _ v' hoff hlen,←List.map_set] at hrow
  obtain⟨t',ht'⟩:=(hw b (by simp) fun hc=>hb (by simp[hc])).1 rfl
  refine⟨b::(g0++(p0++f1'++p2)++g2),⟨_,_,_,cap,rfl,by simp,by simpa using h3,h4,by simpa using h5, .inr ⟨b,_,t',rfl,rfl,ht',by rw[List.length_set];exact k0,hrow⟩⟩,?_,?_⟩
  ·have hfr:∀ c∈f1',c∈p1∨(c∉p0∧c∉p2):=fun c hc=>(hs' c hc).imp id fun q=>⟨fun q'=>q (by simp[q']),fun q'=>q (by simp[q'])⟩
   have hsub:∀ c∈p0++f1'++p2,c∈p0++p1++p2∨(c∉g0∧c∉g2):=fun c hc=>by
    simp only[List.mem_append] at hc
    rcases hc with (hc|hc)|hc
    ·exact .inl (by simp[hc])
    ·rcases hs' c hc with q|q
     ·exact .inl (by simp[q])
     ·exact .inr ⟨fun q'=>q (by simp[q']),fun q'=>q (by simp[q'])⟩
    ·exact .inl (by simp[hc])
   rw[List.nodup_cons]
   refine⟨fun hc=>?_,b9b (f1:=p0++p1++p2) (a3i (a3i n1 n2 fun x hx hx'=>n3 x hx x hx' rfl) n4 fun x hx hx'=>n5 x hx x hx' rfl) (b9b hnd1 hn' hfr) hsub⟩
   simp only[List.mem_append] at hc
   rcases hc with (hc|(hc|hc)|hc)|hc
   ·exact hb (by simp[hc])
   ·exact hb (by simp[hc])
   ·rcases hs' b hc with q|q
    ·exact hb (by simp[q])
    ·exact q (by simp)
   ·exact hb (by simp[hc])
   ·exact hb (by simp[hc])
  ·intro c hc
   simp only[List.mem_cons,List.mem_append] at hc
   rcases hc with hc|(hc|(hc|hc)|hc)|hc
   ·exact .inl (by simp[hc])
   ·exact .inl (by simp[hc])
   ·exact .inl (by simp[hc])
   ·exact .inr hc
   ·exact .inl (by simp[hc])
   ·exact .inl (by simp[hc])
theorem e1j{lk:Nat→Option a0d}{k:Int}{z:Value}(hz:VR c G lk w (.imm ⟨.int .i64,k⟩) z):z = .int .i64 k∧a0e k:=by
 obtain⟨h1,h2,h3⟩:=hz
 simp only[List.cons.injEq,and_true] at h1
 refine⟨h1,?_⟩
 simp only[IntKind.min,IntKind.max,IntKind.signed,IntKind.bits,if_true] at h2 h3
 constructor<;>omega
theorem d9v(hE:a0r c.P c.E)(h:Inv c G s a w){o:Oper}{f:FuncId}{m:b7v}(hm:c.E.mark f=some m){id i off:Nat}{τ:Ty}{xs:List τ.den}(hid:s.look id=some (.tree τ xs)){u:TV}(hu:TV.part ⟨τ,xs.getD i τ.zero⟩ off m.τ=some u){x:m.τ.den}(hx:u.as m.τ=some x)
  (hagg:m.τ.agg=false) (hoff:off<τ.size) {k:Int} {y:τ.den} (hy:a7t τ (xs.getD i τ.zero) off ⟨m.τ,(m.g x k).2.1⟩=some y) {v z:Value} {d:Nat}
  (hv:VR c G s.look w (.sub id i off τ.size) v) (hz:VR c G s.look w (.imm ⟨.int .i64,k⟩) z) (hpre:(m.g x k).1.ok) (hd:o.dst=some d) (hrun:a5p c.P f→(execOp a.eval o).run c.P w = .ok (.enter f [v,z].toArray) w) {Q:Exit→Act→World→Prop} :
  o.wp c.P a w (fun a' w'=>∃ G',Inv c G' ((s.noSubs.setTree id τ (xs.set i y)).put (some d) (.imm ⟨.int .i64,(m.g x k).2.2⟩)) a' w') Q:=by
 obtain⟨hfn,hcall⟩:=hE.mark f _ hm
 obtain⟨rfl,hkin⟩:=e1j hz
 obtain⟨_,a0,n,cap,l,hη,hin,hl,_⟩:=hv
 have hux:=TV.as_some hx
 subst hux
 obtain⟨rfl,v',f1,p1,p2,p3,p4,p5⟩:=d9n (h.trees.tr id τ xs hid) (h.trees.nd id τ xs hid) hη hin hu hagg hoff
 rw[hl] at p1
 simp only[Option.some.injEq] at p1
 subst p1
 have hO:OwV w ⟨m.τ,x⟩ v f1:=by
  obtain⟨τm,g⟩:=m
  cases τm with
  | st s=>cases hagg
  | _=>exact p2
 unfold Oper.wp
 rw[hrun hfn]
 simp only[Oper.upon]
 refine (hcall x k w v f1 hpre hkin (h.gokM fun b hb=>(h.trees.pl id τ xs b hid (p4 b hb)).2.1) hO p3 fun b hb=>(h.trees.pl id τ xs b hid (p4 b hb)).2.2.1).mono ?_
 rintro e w' ⟨rfl,hin',hk,f1',hO',hnd',hsub⟩
 have hO2:Ow w' (TV.toD ⟨m.τ,(m.g x k).2.1⟩) [v] f1':=by
  obtain⟨τm,g⟩:=m
  cases τm with
  | st s=>cases hagg
  | _=>exact hO'
 have hset:l.set (i * τ.size+off) v=l:=by
  apply List.ext_getElem?
  intro j
  rw[List.getElem?_set]
  split
  ·rename_i e
   subst e
   split
   ·exact hl.symm
   ·rename_i hn
    rw[List.getElem?_eq_none (by omega)]
  ·rfl
 obtain⟨fp',hT,hnd2,hs2⟩:=p5 w' ⟨m.τ,(m.g x k).2.1⟩ y v f1' hy (fun b hb hn=>by
  have hsame:=hk.block b (h.trees.pl id τ xs b hid hb).2.2.1 hn
  refine⟨fun ha=>?_,fun _=>hsame⟩
  rw[hsame,hset]
  obtain⟨v0,l0,a1,cap1,q1,q2,_,_,_,q6⟩:=h.trees.tr id τ xs hid
  rw[hη] at q1
  simp only[Value.tuple.injEq] at q1
  have q1:(Value.slice a0 xs.length cap::l)=v0::l0:=congrArg Array.toList q1
  simp only[List.cons.injEq] at q1
  obtain⟨r1,r2⟩:=q1
  subst r2
  rw[q2,ha] at r1
  simp only[Value.slice.injEq] at r1
  rcases q6 with ⟨_,q7,_⟩|⟨b',f,t,q7,q8,q9,_⟩
  ·rw[q7.1] at r1;cases r1.1
  ·rw[q7] at r1
   have r1:=r1.1
   simp only[Option.some.injEq,Addr.mk.injEq,and_true] at r1
   subst r1
   exact⟨t,q9⟩) hO2 hnd' (fun b hb=>(hsub b hb).imp (fun q=>q) fun q q'=>by have:=(h.trees.pl id τ xs b hid q').2.2.1;omega)
 rw[hset,←hη] at hT
 show ∃ G',Inv c G' ((s.noSubs.setTree id τ (xs.set i y)).put (some d) (.imm ⟨.int .i64,(m.g x k).2.2⟩)) (a.put o.dst (.int .i64 (m.g x k).2.2)) w'
 rw[hd]
 refine h.turned (w':=w') (t:=s.noSubs.setTree id τ (xs.set i y)) (A:=[(id,(G.η id,fp', .tree τ (xs.set i y)))]) ?_ ?_ ?_ (by simp) hk (fun b hb=>⟨_,List.mem_singleton.2 rfl,p4 b hb⟩) rfl (fun i=>?_) (fun G' lk=>d0p hin')
 ·intro p hp
  simp only[List.mem_singleton] at hp
  subst hp
  exact⟨τ,xs,_,_,l,l,hid,rfl,hη,hη,hT,hnd2⟩
 ·intro p hp b hb
  simp only[List.mem_singleton] at hp
  subst hp
  rcases hs2 b hb with q|q
  ·exact .inl ⟨_,List.mem_singleton.2 rfl,q⟩
  ·rcases hsub b q with q|q
   ·exact .inl ⟨_,List.mem_singleton.2 rfl,p4 b q⟩
   ·exact .inr (d7p h q.1 q.2)
 ·intro p hp q hq b _ _
  simp only[List.mem_singleton] at hp hq
  rw[hp,hq]
 ·rw[d1x,a4o]
theorem d2q{lk:Nat→Option a0d}:∀ {cs:List AV} {ts:List Ty} {us us':List TV} {ids:List Nat} {l:List Value} {fp':List Nat},b2v lk cs ts=some (us,ids)→a0g (C1 c G lk w) cs l→us'.map TV.τ=ts→a1t w' (us'.map TV.toD) l fp'→fp'.Nodup→ids.Nodup →
  (∀ id∈ids,a1i (lk id)=true)→∃ A:List (Nat×TE),A.map (·.1)=ids∧(∀ p∈A,e0k G lk w' p.1 p.2)∧(∀ p∈A,∀ b∈p.2.2.1,b∈fp')∧(∀ p∈A,∀ q∈A,∀ b∈p.2.2.1,b∈q.2.2.1→p.1=q.1) ∧
   ∀ s:a0c,(s.setTrees cs us').slots=s.slots∧∀ i,(s.setTrees cs us').look i=teL A s.look i
 | [],[],us,us',ids,l,fp',ht,hl,htt,hO,hnd,hni,hT=>by
  simp only[b2v,Option.some.injEq,Prod.mk.injEq] at ht
  obtain⟨rfl,rfl⟩:=ht
  exact⟨[],rfl,by simp,by simp,by simp,fun s=>by cases us'<;>exact⟨rfl,fun _=>rfl⟩⟩
 | cc::cs,t::ts,us,us',ids,l,fp',ht,hl,htt,hO,hnd,hni,hT=>by
  simp only[b2v] at ht
  split at ht
  case h_2=>cases ht
  case h_1 x i0 hx =>
  split at ht
  case h_2=>cases ht
  case h_1 r j hr =>
  simp only[Option.some.injEq,Prod.mk.injEq] at ht
  obtain⟨rfl,rfl⟩:=ht
  match us',l,htt,hl,hO with
  | u'::us',v::l,htt,hl,hO =>
  simp only[List.map_cons,List.cons.injEq] at htt
  obtain⟨ht1,ht2⟩:=htt
  obtain⟨v1,r1,f1,f2,e1,e2,o1,o2⟩:=hO
  simp only[List.cons.injEq] at e1
  obtain⟨rfl,rfl⟩:=e1
  subst e2
  rw[List.nodup_append] at hnd hni
  obtain⟨nd1,nd2,nd3⟩:=hnd
  obtain⟨ni1,ni2,ni3⟩:=hni
  obtain⟨A,a1,a2,a3,a4,a5⟩:=d2q hr hl.2 ht2 o2 nd2 ni2 (fun id hid=>hT id (by simp[hid]))
  have skip:i0=[]→(∀ s:a0c,(s.setTrees (cc::cs) (u'::us'))=s.setTrees cs us')→∃ A:List (Nat×TE),A.map (·.1)=i0++j∧(∀ p∈A,e0k G lk w' p.1 p.2)∧(∀ p∈A,∀ b∈p.2.2.1,b∈f1++f2)∧(∀ p∈A,∀ q∈A,∀ b∈p.2.2.1,b∈q.2.2.1→p.1=q.1) ∧
   ∀ s:a0c,(s.setTrees (cc::cs) (u'::us')).slots=s.slots∧∀ i,(s.setTrees (cc::cs) (u'::us')).look i=teL A s.look i:=fun hi hs =>
   ⟨A,by rw[hi];exact a1,a2,fun p hp b hb=>by simp[a3 p hp b hb],a4,fun s=>by rw[hs];exact a5 s⟩
  cases cc with
  | imm z =>
   simp only[a2i] at hx
   split at hx
   ·simp only[Option.some.injEq,Prod.mk.injEq] at hx
    exact skip hx.2.symm fun s=>by obtain⟨τ',y'⟩:=u';cases τ'<;>rfl
   ·cases hx
  | nil =>
   cases t with
   | slice t' =>
    simp only[a2i,Option.some.injEq,Prod.mk.injEq] at hx
    exact skip hx.2.symm fun s=>by obtain⟨τ',y'⟩:=u';cases τ'<;>rfl
   | _=>cases hx
  | row id =>
   simp only[a2i] at hx
   split at hx
   ·rename_i hl'
    split at hx
    ·simp only[Option.some.injEq,Prod.mk.injEq] at hx
     have:=hT id (by rw[←hx.2];simp)
     rw[hl'] at this
     cases this
    ·cases hx
   ·cases hx
  | tree id =>
   simp only[a2i] at hx
   split at hx
   ·rename_i τ' ys hl'
    split at hx
    ·rename_i y' hy'
     simp only[Option.some.injEq,Prod.mk.injEq] at hx
     obtain⟨_,rfl⟩:=hx
     have e:=TV.as_some hy'
     have et:Ty.slice τ'=t:=congrArg TV.τ e
     subst et
     obtain⟨τu,yu⟩:=u'
     have ht1:τu=Ty.slice τ':=ht1
     subst ht1
     obtain⟨_,l0,hη,_⟩:=hl.1
     obtain⟨l',hT',_⟩:=a4l.of_ow (τ:=τ') (xs:=yu) o1
     refine⟨(id,(.tuple (v::l').toArray,f1, .tree τ' yu))::A,by simp[a1],?_,?_,?_,fun s=>?_⟩
     ·intro p hp
      rcases List.mem_cons.1 hp with rfl|hp
      ·exact⟨τ',ys,yu,v,l0,l',hl',rfl,hη,rfl,hT',nd1⟩
      ·exact a2 p hp
     ·intro p hp b hb
      rcases List.mem_cons.1 hp with rfl|hp
      ·exact List.mem_append.2 (.inl hb)
      ·exact List.mem_append.2 (.inr (a3 p hp b hb))
     ·intro p hp q hq b hb hb'
      rcases List.mem_cons.1 hp with rfl|hp<;>rcases List.mem_cons.1 hq with rfl|hq
      ·rfl
      ·exact absurd rfl (nd3 b hb b (a3 q hq b hb'))
      ·exact absurd rfl (nd3 b hb' b (a3 p hp b hb))
      ·exact a4 p hp q hq b hb hb'
     ·obtain⟨q1,q2⟩:=a5 (s.setTree id τ' yu)
      refine⟨q1,fun i=>?_⟩
      have hstep:(s.setTrees (.tree id::cs) (⟨.slice τ',yu⟩::us')).look i=teL A (s.setTree id τ' yu).look i:=q2 i
      rw[hstep]
      have hno:∀ e,a0f A id=some e→False:=fun e he=>by
       have:id∈A.map (·.1):=List.mem_map.2 ⟨_,a4g he,rfl⟩
       rw[a1] at this
       exact ni3 id (by simp) id this rfl
      unfold teL
      simp only[a0f]
      by_cases hi:i=id
      ·subst hi
       cases hA:a0f A i with
       | none=>simp[a4o]
       | some e=>exact (hno e hA).elim
      ·have:Nat.beq id i=false:=by
        cases hb:Nat.beq id i with
        | false=>rfl
        | true=>exact absurd (Nat.eq_of_beq_eq_true hb).symm hi
       simp only[this]
       cases a0f A i with
       | none=>simp[a4o,hi]
       | some e=>rfl
    ·cases hx
   ·cases hx
  | _=>cases hx
 | [],_::_,_,_,_,_,_,ht,_,_,_,_,_,_=>by cases ht
 | _::_,[],_,_,_,_,_,ht,_,_,_,_,_,_=>by cases ht
theorem d9u(hE:a0r c.P c.E)(h:Inv c G s a w){o:Oper}{f:FuncId}{m:b7v}(hm:c.E.mark f=some m){cs:List AV}{x:m.τ.den}{ids:List Nat}(ht:b0q s.look m.τ (.agg cs)=some (x,ids))(hnd:ids.Nodup)(hT:∀ id∈ids,a1i (s.look id)=true)
  {k:Int} {v z:Value} {d:Nat} (hv:VR c G s.look w (.agg cs) v) (hz:VR c G s.look w (.imm ⟨.int .i64,k⟩) z) (hpre:(m.g x k).1.ok) (hd:o.dst=some d) (hrun:a5p c.P f→(execOp a.eval o).run c.P w = .ok (.enter f [v,z].toArray) w) {Q:Exit→Act→World→Prop} :
  o.wp c.P a w (fun a' w'=>∃ G',Inv c G' ((s.noSubs.setTrees cs (TV.cells ⟨m.τ,(m.g x k).2.1⟩)).put (some d) (.imm ⟨.int .i64,(m.g x k).2.2⟩)) a' w') Q:=by
 obtain⟨hfn,hcall⟩:=hE.mark f _ hm
 obtain⟨rfl,hkin⟩:=e1j hz
 obtain⟨fp,hO,hnd1,hfp⟩:=b0b h ht hv hnd
 have hlt:∀ b∈fp,b<w.heap.size:=fun b hb=>by
  obtain⟨id,hi,hq⟩:=hfp b hb
  rcases hq with ⟨τ,xs,q1,q2⟩|⟨e,τ,xs,q1,q2⟩
  ·exact (h.trees.pl id τ xs b q1 q2).2.2.1
  ·exact (h.place id _ b q1 q2).2.2
 have hφ:∀ b,InF G s.look ids b→∃ id∈ids,b∈G.φ id:=fun b hb=>by
  obtain⟨id,hi,hq⟩:=hb
  rcases hq with ⟨τ,xs,q1,q2⟩|⟨e,τ,xs,q1,q2⟩
  ·exact⟨id,hi,q2⟩
  ·have:=hT id hi
   rw[q1] at this
   cases this
 unfold Oper.wp
 rw[hrun hfn]
 simp only[Oper.upon]
 refine (hcall x k w v fp hpre hkin (h.gokM fun b hb=>by
  obtain⟨id,hi,hq⟩:=hfp b hb
  rcases hq with ⟨τ,xs,q1,q2⟩|⟨e,τ,xs,q1,q2⟩
  ·exact (h.trees.pl id τ xs b q1 q2).2.1
  ·exact (h.place id _ b q1 q2).2.1) hO hnd1 hlt).mono ?_
 rintro e w' ⟨rfl,hin',hk,fp',hO',hnd',hsub⟩
 show ∃ G',Inv c G' ((s.noSubs.setTrees cs (TV.cells ⟨m.τ,(m.g x k).2.1⟩)).put (some d) (.imm ⟨.int .i64,(m.g x k).2.2⟩)) (a.put o.dst (.int .i64 (m.g x k).2.2)) w'
 rw[hd]
 obtain⟨τm,g⟩:=m
 cases τm with
 | st st =>
  simp only[b0q] at ht
  split at ht
  case h_2=>cases ht
  case h_1 us i0 hcs =>
  split at ht
  case h_2=>cases ht
  case h_1 y0 hy0 =>
  simp only[Option.some.injEq,Prod.mk.injEq] at ht
  obtain⟨rfl,rfl⟩:=ht
  obtain⟨l,rfl,hl⟩:=hv
  obtain⟨l2,hl2,hO'⟩:=hO'
  simp only[Value.agg.injEq] at hl2
  have hl2:l=l2:=congrArg Array.toList hl2
  subst hl2
  rw[show ((⟨.st st,g⟩:b7v).g y0 k).2.1=(g y0 k).2.1 from rfl,a0h.toD_cells] at hO'
  obtain⟨A,a1,a2,a3,a4,a5⟩:=d2q (us':=st.cells (g y0 k).2.1) hcs hl (a0h.cells_tys st _) hO' hnd' hnd hT
  obtain⟨q1,q2⟩:=a5 s.noSubs
  have hinA:∀ id∈i0,∃ p∈A,p.1=id:=fun id hid=>by
   rw[←a1] at hid
   obtain⟨p,hp,rfl⟩:=List.mem_map.1 hid
   exact⟨p,hp,rfl⟩
  refine h.turned (w':=w') (t:=s.noSubs.setTrees cs (st.cells (g y0 k).2.1)) (A:=A) a2 ?_ a4 (by rw[a1];exact hnd) hk ?_ q1 q2 (fun G' lk=>d0p hin')
  ·intro p hp b hb
   rcases hsub b (a3 p hp b hb) with q|q
   ·obtain⟨id,hi,hbi⟩:=hφ b (hfp b q)
    obtain⟨q,hq,rfl⟩:=hinA id hi
    exact .inl ⟨q,hq,hbi⟩
   ·exact .inr (d7p h q.1 q.2)
  ·intro b hb
   obtain⟨id,hi,hbi⟩:=hφ b (hfp b hb)
   obtain⟨q,hq,rfl⟩:=hinA id hi
   exact⟨q,hq,hbi⟩
 | _=>cases ht
end
end Go.Proofs.YtmdefiphdgcijaaDoor

/- Code, and a whole function. -/
import Derived.Test.YtmdefiphdgcijaaDoorVmDraw4
import Derived.Deep.LoopGhost
set_option linter.unusedVariables false
set_option linter.unusedSimpArgs false
namespace Go.Proofs.YtmdefiphdgcijaaDoor
theorem a8g{u v:TV}(h:b3t u v):u=v:=by
 unfold b3t at h
 split at h
 ·rename_i x hx
  have:=TV.as_some hx
  rw[this,h]
 ·exact h.elim
theorem c3f:∀ {l:List Nat},a4a l=true→l.Nodup
 | [],_=>List.nodup_nil
 | a::r,h=>by
  simp only[a4a] at h
  split at h
  ·cases h
  ·rename_i hc
   exact List.nodup_cons.2 ⟨by simpa using hc,c3f h⟩
theorem c0l{α:Type}(f:α→Nat):∀ {l:List α},(l.map f).Nodup→∀ x∈l,∀ y∈l,f x=f y→x=y
 | [],_,x,hx,_,_,_=>by simp at hx
 | a::r,h,x,hx,y,hy,he=>by
  simp only[List.map_cons,List.nodup_cons] at h
  rcases List.mem_cons.1 hx with hx1|hx1
  ·rcases List.mem_cons.1 hy with hy1|hy1
   ·rw[hx1,hy1]
   ·exact absurd (List.mem_map.2 ⟨y,hy1,by rw[←he,hx1]⟩) h.1
  ·rcases List.mem_cons.1 hy with hy1|hy1
   ·exact absurd (List.mem_map.2 ⟨x,hx1,by rw[he,hy1]⟩) h.1
   ·exact c0l f h.2 x hx1 y hy1 he
section
variable {c:Ctx} {G:Gh} {s t:a0c} {a:Act} {w w':World}
def a6q(G:Gh)(s t:a0c)(ρ:List (Nat×Nat))(id:Nat):Value:=match s.look (a1s ρ id) with
 | some _=>G.η (a1s ρ id)
 | none=>match a1i (t.look id) with
  | true => .tuple [.slice none 0 0].toArray
  | false => .slice none 0 0
def b6u(G:Gh)(s:a0c)(ρ:List (Nat×Nat))(id:Nat):List Nat:=match s.look (a1s ρ id) with
 | some _=>G.φ (a1s ρ id)
 | none=>[]
theorem b0d{ρ:List (Nat×Nat)}{x:Value}{u v:AV}(h:AV.fit1 ρ s t u v)(hu:C1 c G s.look w u x):C1 c ⟨G.S,a6q G s t ρ,b6u G s ρ⟩ t.look w v x:=by
 unfold AV.fit1 at h
 split at h
 ·trivial
 ·split at h
  ·have:=a8g h
   subst this
   exact hu
  ·split at h
   ·subst h
    exact⟨rfl,d5a (c:=c) (G:=G) (lk:=s.look) (τ := .slice _) (v := .nil) rfl (show C1 c G s.look w .nil x from hu)⟩
   ·exact h.elim
  ·exact h.elim
 ·split at h
  ·exact hu
  ·exact h.elim
 ·split at h
  ·have:=a8g h
   subst this
   exact hu
  ·exact h.elim
 ·split at h
  ·split at h
   ·rename_i hb
    simp only[Bool.and_eq_true] at hb
    have h1:=Nat.eq_of_beq_eq_true hb.1.1
    have h2:=Nat.eq_of_beq_eq_true hb.1.2
    subst h1 h2
    obtain⟨b,k1,k2,k3⟩:=hu
    refine⟨b,?_,k2,hb.2⟩
    simp only[a6q]
    match hl:s.look (a1s ρ _),k3 with
    | some o,_=>exact k1
   ·exact h.elim
  ·exact h.elim
 ·split at h
  ·split at h
   ·rename_i hb
    simp only[Bool.and_eq_true] at hb
    have h1:=Nat.eq_of_beq_eq_true hb.1
    subst h1
    obtain⟨k1,k2,k3⟩:=hu
    refine⟨?_,hb.2,k3⟩
    simp only[a6q]
    match hl:s.look (a1s ρ _),k2 with
    | some o,_=>exact k1
   ·exact h.elim
  ·split at h
   ·rename_i hr hn
    refine⟨?_,hr,none,0,0,hu⟩
    simp only[a6q,hn,b5m hr]
    exact hu
   ·exact h.elim
  ·exact h.elim
 ·split at h
  ·split at h
   ·rename_i hb
    simp only[Bool.and_eq_true] at hb
    have h1:=Nat.eq_of_beq_eq_true hb.1
    subst h1
    obtain⟨k1,l,k2,k3⟩:=hu
    refine⟨hb.2,l,?_,k3⟩
    simp only[a6q]
    match hl:s.look (a1s ρ _),k1 with
    | some o,_=>exact k2
   ·exact h.elim
  ·split at h
   ·rename_i hr hn
    have hu:x = .slice none 0 0:=hu
    refine⟨hr,[],?_,none,0,0,hu⟩
    simp only[a6q,hn,hr]
    rw[hu]
   ·exact h.elim
  ·exact h.elim
 ·split at h
  ·split at h
   ·rename_i hb
    have h1:=Nat.eq_of_beq_eq_true hb
    subst h1
    exact hu
   ·exact h.elim
  ·exact h.elim
 ·split at h
  ·split at h
   ·rename_i hb
    simp only[Bool.and_eq_true] at hb
    have h1:=Nat.eq_of_beq_eq_true hb.1
    subst h1
    obtain⟨k1,k2,k3⟩:=hu
    refine⟨?_,hb.2,k3⟩
    simp only[a6q]
    match hl:s.look (a1s ρ _),k2 with
    | some o,_=>exact k1
   ·exact h.elim
  ·exact h.elim
 ·exact h.elim
theorem c3y{ρ:List (Nat×Nat)}:∀ {us vs:List AV} {l:List Value},c2z ρ s t us vs→a0g (C1 c G s.look w) us l→a0g (C1 c ⟨G.S,a6q G s t ρ,b6u G s ρ⟩ t.look w) vs l
 | [],[],[],_,_=>trivial
 | u::us,v::vs,x::l,h,hu=>by
  simp only[c2z] at h
  split at h
  ·exact⟨trivial,c3y h hu.2⟩
  ·exact⟨b0d h.1 hu.1,c3y h.2 hu.2⟩
 | [],_::_,_,h,_=>h.elim
 | _::_,[],_,h,_=>h.elim
 | [],[],_::_,_,h=>h.elim
 | _::_,_::_,[],_,h=>h.elim
theorem e9r{ρ:List (Nat×Nat)}{x:Value}{u v:AV}(h:AV.fit0 ρ s t u v)(hu:CR c G s.look w u x):CR c ⟨G.S,a6q G s t ρ,b6u G s ρ⟩ t.look w v x:=by
 rcases hu.inv with ⟨z,rfl,h1⟩|⟨cs,l,rfl,rfl,h1⟩|h1
 ·cases v with
  | any=>trivial
  | imm z' =>
   have:=a8g (show b3t z z' from h)
   subst this
   exact hu
  | _=>exact (show False from h).elim
 ·cases v with
  | any=>trivial
  | agg vs=>exact⟨l,rfl,c3y (show c2z ρ s t cs vs from h) h1⟩
  | _=>exact (show False from h).elim
 ·cases u with
  | agg cs=>exact (show False from h1).elim
  | _=>exact (b0d (show AV.fit1 ρ s t _ v by cases v<;>exact h) h1).toCR
theorem d7n{ρ:List (Nat×Nat)}:∀ {us vs:List AV} {l:List Value},e1b ρ s t us vs→a0g (CR c G s.look w) us l→a0g (CR c ⟨G.S,a6q G s t ρ,b6u G s ρ⟩ t.look w) vs l
 | [],[],[],_,_=>trivial
 | u::us,v::vs,x::l,h,hu=>by
  simp only[e1b] at h
  split at h
  ·exact⟨trivial,d7n h hu.2⟩
  ·exact⟨e9r h.1 hu.1,d7n h.2 hu.2⟩
 | [],_::_,_,h,_=>h.elim
 | _::_,[],_,h,_=>h.elim
 | [],[],_::_,_,h=>h.elim
 | _::_,_::_,[],_,h=>h.elim
theorem e5p{u v:FV}(h:e3z u v):u=v:=by
 unfold e3z at h
 split at h
 ·rename_i F hF
  have:=FV.as_some hF
  rw[this,h]
 ·exact h.elim
theorem f0o{ρ:List (Nat×Nat)}{x:Value}{u v:AV}(h:AV.fit ρ s t u v)(hu:VR c G s.look w u x):VR c ⟨G.S,a6q G s t ρ,b6u G s ρ⟩ t.look w v x:=by
 cases u with
 | agg us =>
  obtain⟨l,h1,h2⟩:=hu
  cases v with
  | any=>trivial
  | agg vs=>exact⟨l,h1,c3y (show c2z ρ s t us vs from h) h2⟩
  | imm z =>
   obtain⟨τ,q⟩:=z
   simp only[AV.fit] at h
   split at h
   ·rename_i y hy
    have hr:RdV w G.S ⟨τ,y⟩ x:=d1g (c:=c) (G:=G) (lk:=s.look) (w:=w) (x:=x) hy ⟨l,h1,h2⟩
    have h':y=q:=h
    show RdV w G.S ⟨τ,q⟩ x
    rw[←h']
    exact hr
   ·exact h.elim
  | _=>exact (show False from h).elim
 | tup us =>
  cases v with
  | any=>trivial
  | _=>exact (show False from h).elim
 | imm z =>
  cases v with
  | any=>trivial
  | imm z' =>
   have:=a8g (show b3t z z' from h)
   subst this
   exact hu
  | _=>exact (show False from h).elim
 | clo f us =>
  obtain⟨l,h1,h2⟩:=hu
  cases v with
  | any=>trivial
  | clo g vs =>
   simp only[AV.fit] at h
   split at h
   ·rename_i hb
    have hb:=Nat.eq_of_beq_eq_true hb
    subst hb
    exact⟨l,h1,d7n h h2⟩
   ·exact h.elim
  | _=>exact (show False from h).elim
 | fun_ z =>
  cases v with
  | any=>trivial
  | fun_ z' =>
   have:=e5p (show e3z z z' from h)
   subst this
   exact hu
  | _=>exact (show False from h).elim
 | any=>cases v<;>first|trivial|exact (show False from h).elim
 | undf=>cases v<;>first|trivial|exact (show False from h).elim
 | nil=>exact (b0d (u := .nil) (show AV.fit1 ρ s t .nil v by cases v<;>exact h) (show C1 c G s.look w .nil x from hu)).toVR
 | pimm z=>exact (b0d (u := .pimm z) (show AV.fit1 ρ s t (.pimm z) v by cases v<;>exact h) (show C1 c G s.look w (.pimm z) x from hu)).toVR
 | ptr i o=>exact (b0d (u := .ptr i o) (show AV.fit1 ρ s t (.ptr i o) v by cases v<;>exact h) (show C1 c G s.look w (.ptr i o) x from hu)).toVR
 | row i=>exact (b0d (u := .row i) (show AV.fit1 ρ s t (.row i) v by cases v<;>exact h) (show C1 c G s.look w (.row i) x from hu)).toVR
 | rptr i k o=>exact (b0d (u := .rptr i k o) (show AV.fit1 ρ s t (.rptr i k o) v by cases v<;>exact h) (show C1 c G s.look w (.rptr i k o) x from hu)).toVR
 | fn f=>exact (b0d (u := .fn f) (show AV.fit1 ρ s t (.fn f) v by cases v<;>exact h) (show C1 c G s.look w (.fn f) x from hu)).toVR
 | mp i=>exact (b0d (u := .mp i) (show AV.fit1 ρ s t (.mp i) v by cases v<;>exact h) (show C1 c G s.look w (.mp i) x from hu)).toVR
 | tree i=>exact (b0d (u := .tree i) (show AV.fit1 ρ s t (.tree i) v by cases v<;>exact h) (show C1 c G s.look w (.tree i) x from hu)).toVR
 | sub i k o z=>exact (b0d (u := .sub i k o z) (show AV.fit1 ρ s t (.sub i k o z) v by cases v<;>exact h) (show C1 c G s.look w (.sub i k o z) x from hu)).toVR
 | tptr i k o z=>exact (b0d (u := .tptr i k o z) (show AV.fit1 ρ s t (.tptr i k o z) v by cases v<;>exact h) (show C1 c G s.look w (.tptr i k o z) x from hu)).toVR
theorem c3a{ρ:List (Nat×Nat)}:∀ {us vs:List AV},c0e ρ s t us vs→us.length=vs.length∧∀ i,vs.getD i .any = .any∨AV.fit ρ s t (us.getD i .any) (vs.getD i .any)
 | [],[],_=>⟨rfl,fun i => .inl (by simp)⟩
 | u::us,v::vs,h=>by
  simp only[c0e] at h
  split at h
  ·obtain⟨h1,h2⟩:=c3a h
   refine⟨by simp[h1],fun i=>?_⟩
   cases i with
   | zero=>exact .inl rfl
   | succ i=>simpa using h2 i
  ·obtain⟨h1,h2⟩:=c3a h.2
   refine⟨by simp[h1],fun i=>?_⟩
   cases i with
   | zero=>exact .inr h.1
   | succ i=>simpa using h2 i
 | [],_::_,h=>h.elim
 | _::_,[],h=>h.elim
def e7j(τ':Ty)(ys:List τ'.den)(τ:Ty)(xs:List τ.den):Prop:=∀ (w:World) (η:Value) (fp:List Nat),a4l w η τ' ys fp→a4l w η τ xs fp
theorem e2p{τ':Ty}{ys:List τ'.den}{τ:Ty}{xs:List τ.den}(h:e2c τ' ys τ xs):e7j τ' ys τ xs:=by
 unfold e2c at h
 split at h
 ·rename_i h1 h2
  have h1:=of_decide_eq_true h1
  have h2:=of_decide_eq_true h2
  subst h1 h2
  have h:=a8g h
  rw[TV.as_mk] at h
  cases h
  intro w η fp hT
  obtain⟨v,l,a,cap,q1,q2,q3,q4,q5,q6⟩:=hT
  have e1:(List.map toO ys).length=ys.length:=List.length_map _
  have e2:((show List a3l from ys).map toO).map (Ty.toD (.st .oExpr))=ys.map (Ty.toD (.st .expr)):=by
   rw[List.map_map]
   refine List.map_congr_left fun x _=>?_
   show a0h.toD .oExpr (toO x)=a0h.toD .expr x
   rw[a0h.toD_cells,a0h.toD_cells]
   rfl
  refine⟨v,l,a,cap,q1,by rw[q2];exact congrArg (Value.slice a · cap) e1.symm,by exact e1 ▸ q3,q4,by exact e1 ▸ q5,?_⟩
  rcases q6 with ⟨rfl,q7,q8⟩|⟨b,f,t,q7,q8,q9,q10,q11⟩
  ·exact .inl ⟨rfl,q7,q8⟩
  ·exact .inr ⟨b,f,t,q7,q8,q9,q10,e2 ▸ q11⟩
 ·have h:=a8g h
  cases h
  exact fun _ _ _ h=>h
def f0j(ρ:List (Nat×Nat))(s t:a0c)(id:Nat):a0d→Prop
 | .box bs=>∃ as,s.look (a1s ρ id)=some (.box as)∧c2z ρ s t as bs
 | .row e τ xs=>s.look (a1s ρ id)=some (.row e τ xs)∨(s.look (a1s ρ id)=none∧xs=[])
 | .tree τ xs=>(∃ τ' ys,s.look (a1s ρ id)=some (.tree τ' ys)∧e7j τ' ys τ xs)∨(s.look (a1s ρ id)=none∧xs=[])
 | .map m=>s.look (a1s ρ id)=some (.map m)
theorem e4g{a b:MV}(h:e4f a b):a=b:=by
 unfold e4f at h
 split at h
 ·rename_i f n hf
  rw[MV.as_some hf]
  simp only
  rw[h.1,h.2]
 ·exact h.elim
theorem a9s{ρ:List (Nat×Nat)}:∀ {l:List (Nat×a0d)},a7p ρ s t l→∀ id o,(id,o)∈l→f0j ρ s t id o
 | [],_,id,o,h=>by simp at h
 | (k, .box bs)::r,h,id,o,hm=>by
  simp only[a7p] at h
  split at h
  ·rename_i as ha
   rcases List.mem_cons.1 hm with e|hm
   ·simp only[Prod.mk.injEq] at e
    obtain⟨rfl,rfl⟩:=e
    exact⟨as,ha,h.1⟩
   ·exact a9s h.2 id o hm
  ·exact h.elim
 | (k, .row e τ xs)::r,h,id,o,hm=>by
  simp only[a7p] at h
  split at h
  ·rename_i e' τ' ys ha
   split at h
   ·rename_i he
    have he:=Nat.eq_of_beq_eq_true he
    subst he
    rcases List.mem_cons.1 hm with e1|hm
    ·simp only[Prod.mk.injEq] at e1
     obtain⟨rfl,rfl⟩:=e1
     have:=a8g h.1
     cases this
     exact .inl ha
    ·exact a9s h.2 id o hm
   ·exact h.elim
  ·rename_i ha
   rcases List.mem_cons.1 hm with e1|hm
   ·simp only[Prod.mk.injEq] at e1
    obtain⟨rfl,rfl⟩:=e1
    exact .inr ⟨ha,h.1⟩
   ·exact a9s h.2 id o hm
  ·exact h.elim
 | (k, .tree τ xs)::r,h,id,o,hm=>by
  simp only[a7p] at h
  split at h
  ·rename_i τ' ys ha
   rcases List.mem_cons.1 hm with e1|hm
   ·simp only[Prod.mk.injEq] at e1
    obtain⟨rfl,rfl⟩:=e1
    exact .inl ⟨τ',ys,ha,e2p h.1⟩
   ·exact a9s h.2 id o hm
  ·rename_i ha
   rcases List.mem_cons.1 hm with e1|hm
   ·simp only[Prod.mk.injEq] at e1
    obtain⟨rfl,rfl⟩:=e1
    exact .inr ⟨ha,h.1⟩
   ·exact a9s h.2 id o hm
  ·exact h.elim
 | (k, .map m)::r,h,id,o,hm=>by
  simp only[a7p] at h
  split at h
  ·rename_i m' ha
   rcases List.mem_cons.1 hm with e1|hm
   ·simp only[Prod.mk.injEq] at e1
    obtain⟨rfl,rfl⟩:=e1
    rw[e4g h.1] at ha
    exact ha
   ·exact a9s h.2 id o hm
  ·exact h.elim
theorem c6f{ρ:List (Nat×Nat)}(h:Inv c G s a w)(hf:e3l ρ s t):∃ G',Inv c G' t a w:=by
 unfold e3l at hf
 split at hf
 case h_2=>exact hf.elim
 case h_1 hb =>
  rw[Bool.and_eq_true] at hb
  obtain⟨hb,hb4⟩:=hb
  rw[Bool.and_eq_true] at hb
  obtain⟨hb,hb3⟩:=hb
  simp only[Bool.and_eq_true] at hb
  obtain⟨hs,ho⟩:=hf
  obtain⟨hlen,hslot⟩:=c3a hs
  have hobj:=a9s ho
  have hη:∀ id b,blk (a6q G s t ρ id)=some b→∃ o,s.look (a1s ρ id)=some o∧blk (G.η (a1s ρ id))=some b:=by
   intro id b hb
   unfold a6q at hb
   split at hb
   ·rename_i o ho;exact⟨o,ho,hb⟩
   ·split at hb<;>cases hb
  refine⟨⟨G.S,a6q G s t ρ,b6u G s ρ⟩,?_⟩
  exact {
   defers:=h.defers
   size:=h.size.trans hlen
   keep:=h.keep,xLt:=h.xLt,sOld:=h.sOld,sX:=h.sX,sLt:=h.sLt
   slots:=fun i=>by
    rcases hslot i with e|e
    ·rw[show t.sl i = .any from e];trivial
    ·exact f0o e (h.slots i)
   objs:=fun id o hid=>by
    have hof:=hobj id o (a5h hid)
    cases o with
    | box bs =>
     obtain⟨as,h1,h2⟩:=hof
     obtain⟨b,l,ty,k1,k2,k3⟩:=h.objs _ _ h1
     refine⟨b,l,ty,?_,k2,c3y h2 k3⟩
     simp only[a6q,h1]
     exact k1
    | row e τ xs =>
     rcases hof with h1|⟨h1,rfl⟩
     ·obtain⟨l,k1,k2,k3⟩:=h.objs _ _ h1
      refine⟨l,?_,k2,k3⟩
      simp only[a6q,h1]
      exact k1
     ·refine⟨[],?_,rfl,by simp⟩
      simp only[a6q,h1,b5m (show b6z (t.look id)=true by rw[hid];rfl)]
      exact World.ownsRow_nil w 0 e τ.size
    | tree τ xs=>trivial
    | map m =>
     have h1:s.look (a1s ρ id)=some (.map m):=hof
     obtain⟨b,es,clock,k1,k2⟩:=h.objs _ _ h1
     refine⟨b,es,clock,?_,k2⟩
     simp only[a6q,h1]
     exact k1
   place:=fun id o b hid hbb=>by
    obtain⟨o',h1,h2⟩:=hη id b hbb
    exact h.place _ _ b h1 h2
   apart:=fun id id' o o' b hid hid' hbb hbb'=>by
    obtain⟨p,h1,h2⟩:=hη id b hbb
    obtain⟨p',h3,h4⟩:=hη id' b hbb'
    have:=h.apart _ _ _ _ b h1 h3 h2 h4
    have hinj:=c0l (fun p:Nat×a0d=>a1s ρ p.1) (c3f hb.2) (id,o) (a5h hid) (id',o') (a5h hid') this
    exact congrArg Prod.fst hinj
   trees:=by
    have hφ:∀ id b,b∈b6u G s ρ id→(∃ o,s.look (a1s ρ id)=some o)∧b∈G.φ (a1s ρ id):=fun id b hb'=>by
     unfold b6u at hb'
     split at hb'
     ·rename_i o ho;exact⟨⟨o,ho⟩,hb'⟩
     ·simp at hb'
    have htr:∀ id τ xs,t.look id=some (.tree τ xs)→(∃ τ' ys,s.look (a1s ρ id)=some (.tree τ' ys)∧e7j τ' ys τ xs)∨(s.look (a1s ρ id)=none∧xs=[]):=fun id τ xs hid=>hobj id _ (a5h hid)
    have hin:∀ id τ xs b,t.look id=some (.tree τ xs)→b∈b6u G s ρ id→∃ τ' ys,s.look (a1s ρ id)=some (.tree τ' ys)∧b∈G.φ (a1s ρ id):=fun id τ xs b hid hb'=>by
     obtain⟨⟨o,ho⟩,h2⟩:=hφ id b hb'
     rcases htr id τ xs hid with ⟨τ',ys,h1,_⟩|⟨h1,_⟩
     ·exact⟨τ',ys,h1,h2⟩
     ·rw[h1] at ho;cases ho
    exact {
     tr:=fun id τ xs hid=>by
      rcases htr id τ xs hid with ⟨τ',ys,h1,hle⟩|⟨h1,rfl⟩
      ·simp only[a6q,b6u,h1]
       exact hle _ _ _ (h.trees.tr _ _ _ h1)
      ·simp only[a6q,b6u,h1,show a1i (t.look id)=true by rw[hid];rfl]
       exact⟨_,[],none,0,rfl,rfl,by simp,by simp[maxLen],by simp, .inl ⟨rfl,⟨rfl,rfl⟩,rfl⟩⟩
     nd:=fun id τ xs hid=>by
      rcases htr id τ xs hid with ⟨τ',ys,h1,_⟩|⟨h1,_⟩
      ·simp only[b6u,h1]
       exact h.trees.nd _ _ _ h1
      ·simp only[b6u,h1]
       exact List.nodup_nil
     pl:=fun id τ xs b hid hb'=>by
      obtain⟨_,_,h1,h2⟩:=hin id τ xs b hid hb'
      obtain⟨q1,q2,q3,q4⟩:=h.trees.pl _ _ _ b h1 h2
      refine⟨q1,q2,q3,fun i o hi hbi=>?_⟩
      obtain⟨o',k1,k2⟩:=hη i b hbi
      exact q4 _ o' k1 k2
     ap:=fun id id' τ τ' xs xs' b hid hid' hb1 hb2=>by
      obtain⟨_,_,h1,h2⟩:=hin id τ xs b hid hb1
      obtain⟨_,_,h3,h4⟩:=hin id' τ' xs' b hid' hb2
      have:=h.trees.ap _ _ _ _ _ _ b h1 h3 h2 h4
      have hinj:=c0l (fun p:Nat×a0d=>a1s ρ p.1) (c3f hb.2) (id, .tree τ xs) (a5h hid) (id', .tree τ' xs') (a5h hid') this
      exact congrArg Prod.fst hinj }
   root:=fun id v hr ht=>by
    have hrg:=h.rng id v hr
    match hl:t.look id,ht with
    | some (.tree τ xs),_ =>
     have hq:=List.all_eq_true.1 hb3 _ (a5h hl)
     simp only[Bool.or_eq_true,Bool.and_eq_true,Nat.blt_eq,Nat.ble_eq] at hq
     rcases hq with hq|hq|⟨hq1,hq2⟩
     ·omega
     ·omega
     ·have hq1:=Nat.eq_of_beq_eq_true hq1
      obtain⟨l,h2⟩:=h.root id v hr hq2
      refine⟨l,?_⟩
      show a6q G s t ρ id=_
      unfold a6q
      rw[hq1]
      match hs:s.look id,hq2 with
      | some (.tree ..),_=>exact h2
   rng:=h.rng
   rootB:=fun id v hr ht=>by
    have hrg:=h.rngB id v hr
    match hl:t.look id,ht with
    | some (.box cs),_ =>
     have hq:=List.all_eq_true.1 hb4 _ (a5h hl)
     simp only[a5k,Bool.not_true,Bool.false_or,Bool.or_eq_true,Bool.and_eq_true,Nat.blt_eq] at hq
     rcases hq with hq|⟨hq1,hq2⟩
     ·omega
     ·have hq1:=Nat.eq_of_beq_eq_true hq1
      have h2:=h.rootB id v hr hq2
      show a6q G s t ρ id=_
      unfold a6q
      rw[hq1]
      match hs:s.look id,hq2 with
      | some (.box ..),_=>exact h2
   rngB:=h.rngB }
theorem a5r(hE:a0r c.P c.E)(hmix:c.P.follows .mixedOrders=true):∀ (code:Code) (Λ:Nat→a0w) (cur:Nat) (Q:Exit→a0c→Prop) (G:Gh) (s:a0c) (a:Act) (w:World),
  Inv c G s a w→awp c.E code Λ cur Q s→code.wp c.P (fun e a w=>∃ G s,Inv c G s a w∧Q e s) a w
 | .skip,Λ,cur,Q,G,s,a,w,h,hr=>wp_skip ⟨G,s,h,hr⟩
 | .region id ops draw,Λ,cur,Q,G,s,a,w,h,hr=>by
  cases draw with
  | true=>exact d9p hE hmix (Q:=Q .normal) (fun G s a w hI hq=>⟨G,s,hI,hq⟩) h hr
  | false =>
   refine wp_region ?_
   have:=b9x hE (ops:=ops) (Q:=Q .normal) (Q':=fun e a w=>∃ G s,Inv c G s a w∧Q e s) (fun G s a w hI hq=>⟨G,s,hI,hq⟩) ops.toList 0 [] G s a w (by simp) h hr
   rw[List.range_eq_range']
   simpa using this
 | .seq x y,Λ,cur,Q,G,s,a,w,h,hr=>by
  simp only[awp] at hr
  split at hr
  case h_2 ι P μ fz dead ins keep os ren0 ren sub hL =>
   obtain⟨hx,hy⟩:=hr
   refine wp_seq (wp_mono (a5r hE hmix x Λ cur _ G s a w h hx) ?_)
   rintro e a' w' ⟨G',s',hI,hq⟩
   cases e with
   | normal =>
    obtain⟨j,hPj,hF⟩:=hq
    obtain⟨G3,h3⟩:=hI.freezes fz
    obtain⟨G4,h4⟩:=c6f h3 hF.ex.choose_spec
    exact a5r hE hmix y (sub j) cur Q G4 _ a' w' h4 (hy j hPj)
   | _=>exact⟨G',s',hI,hq⟩
  refine wp_seq (wp_mono (a5r hE hmix x Λ cur _ G s a w h hr) ?_)
  rintro e a' w' ⟨G',s',hI,hq⟩
  cases e with
  | normal=>exact a5r hE hmix y Λ cur Q G' s' a' w' hI hq
  | _=>exact⟨G',s',hI,hq⟩
 | .cond x p q,Λ,cur,Q,G,s,a,w,h,hr=>by
  simp only[awp] at hr
  split at hr
  ·rename_i t ht
   have hx:=a0p h x
   rw[ht] at hx
   have hx:[a.eval x]=[.bool t]:=hx
   simp only[List.cons.injEq,and_true] at hx
   refine wp_cond hx ?_
   cases t with
   | true=>exact a5r hE hmix p Λ cur Q G s a w h (hr.1 rfl)
   | false=>exact a5r hE hmix q Λ cur Q G s a w h (hr.2 rfl)
  ·exact hr.elim
 | .block id x,Λ,cur,Q,G,s,a,w,h,hr=>by
  refine wp_block (wp_mono (a5r hE hmix x Λ id _ G s a w h hr) ?_)
  rintro e a' w' ⟨G',s',hI,hq⟩
  cases e with
  | exit i =>
   simp only at hq
   simp only[Exit.inBlock]
   split at hq
   ·rename_i hi
    rw[if_pos (Nat.eq_of_beq_eq_true hi)]
    exact⟨G',s',hI,hq⟩
   ·rename_i hi
    have:i≠id:=fun e=>by subst e;simp at hi
    rw[if_neg this]
    exact⟨G',s',hI,hq⟩
  | _=>exact⟨G',s',hI,hq⟩
 | .loop x,Λ,cur,Q,G,s,a,w,h,hr=>by
  simp only[awp] at hr
  split at hr
  ·exact hr.elim
  ·rename_i ι P μ fz dead ins keep os ren0 ren sub hL
   obtain⟨⟨i0,hP0,hF0⟩,hround⟩:=hr
   obtain⟨G1,h1⟩:=h.freezes fz
   obtain⟨G2,h2⟩:=c6f h1 hF0.ex.choose_spec
   refine wp_loop_ghost (fun n a w=>∃ i G,P i∧μ i=n∧Inv c G (b4d s (dead++Code.asg x) (ins i) keep (os i)) a w) (μ i0) ⟨i0,G2,hP0,rfl,h2⟩ ?_
   rintro n a' w' ⟨i,G',hP,rfl,hI⟩
   refine wp_mono (a5r hE hmix x (sub i) cur _ G' _ a' w' hI (hround i hP)) ?_
   rintro e a'' w'' ⟨G'',s'',hI'',hq⟩
   cases e with
   | normal =>
    obtain⟨j,hPj,hlt,hF⟩:=hq
    obtain⟨G3,h3⟩:=hI''.freezes fz
    obtain⟨G4,h4⟩:=c6f h3 hF.ex.choose_spec
    exact⟨μ j,hlt,j,G4,hPj,rfl,h4⟩
   | _=>exact⟨G'',s'',hI'',hq⟩
 | .exit id,Λ,cur,Q,G,s,a,w,h,hr=>wp_exit ⟨G,s,h,hr⟩
 | .ret,Λ,cur,Q,G,s,a,w,h,hr=>wp_ret ⟨G,s,h,hr⟩
 | .label l,Λ,cur,Q,G,s,a,w,h,hr=>wp_label ⟨G,s,h,hr⟩
 | .rangeFunc ..,_,_,_,_,_,_,_,_,hr=>hr.elim
 | .scope ..,_,_,_,_,_,_,_,_,hr=>hr.elim
 | .goto ..,_,_,_,_,_,_,_,_,hr=>hr.elim
 | .refuse ..,_,_,_,_,_,_,_,_,hr=>hr.elim
end
end Go.Proofs.YtmdefiphdgcijaaDoor

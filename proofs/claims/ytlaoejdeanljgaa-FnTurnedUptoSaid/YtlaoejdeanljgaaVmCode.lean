/- Code, and a whole function. -/
import Derived.Test.YtlaoejdeanljgaaVmDraw4
import Derived.Deep.LoopGhost
set_option linter.unusedVariables false
set_option linter.unusedSimpArgs false
namespace Go.Proofs.Ytlaoejdeanljgaa
theorem b3r{u v:TV}(h:c1i u v):u=v:=by
 unfold c1i at h
 split at h
 ·rename_i x hx
  have:=TV.as_some hx
  rw[this,h]
 ·exact h.elim
theorem d3w:∀ {l:List Nat},a6b l=true→l.Nodup
 | [],_=>List.nodup_nil
 | a::r,h=>by
  simp only[a6b] at h
  split at h
  ·cases h
  ·rename_i hc
   exact List.nodup_cons.2 ⟨by simpa using hc,d3w h⟩
theorem d0c{α:Type}(f:α→Nat):∀ {l:List α},(l.map f).Nodup→∀ x∈l,∀ y∈l,f x=f y→x=y
 | [],_,x,hx,_,_,_=>by simp at hx
 | a::r,h,x,hx,y,hy,he=>by
  simp only[List.map_cons,List.nodup_cons] at h
  rcases List.mem_cons.1 hx with hx1|hx1
  ·rcases List.mem_cons.1 hy with hy1|hy1
   ·rw[hx1,hy1]
   ·exact absurd (List.mem_map.2 ⟨y,hy1,by rw[←he,hx1]⟩) h.1
  ·rcases List.mem_cons.1 hy with hy1|hy1
   ·exact absurd (List.mem_map.2 ⟨x,hx1,by rw[he,hy1]⟩) h.1
   ·exact d0c f h.2 x hx1 y hy1 he
section
variable {c:Ctx} {G:Gh} {s t:a0c} {a:Act} {w w':World}
def a9l(G:Gh)(s t:a0c)(ρ:List (Nat×Nat))(id:Nat):Value:=match s.look (a3d ρ id) with
 | some _=>G.η (a3d ρ id)
 | none=>match a3e (t.look id) with
  | true => .tuple [.slice none 0 0].toArray
  | false => .slice none 0 0
def c4v(G:Gh)(s:a0c)(ρ:List (Nat×Nat))(id:Nat):List Nat:=match s.look (a3d ρ id) with
 | some _=>G.φ (a3d ρ id)
 | none=>[]
theorem b6i{ρ:List (Nat×Nat)}{x:Value}{u v:AV}(h:AV.fit1 ρ s t u v)(hu:C1 c G s.look w u x):C1 c ⟨G.S,a9l G s t ρ,c4v G s ρ⟩ t.look w v x:=by
 unfold AV.fit1 at h
 split at h
 ·trivial
 ·split at h
  ·have:=b3r h
   subst this
   exact hu
  ·split at h
   ·subst h
    exact⟨rfl,f0y (c:=c) (G:=G) (lk:=s.look) (τ := .slice _) (v := .nil) rfl (show C1 c G s.look w .nil x from hu)⟩
   ·exact h.elim
  ·exact h.elim
 ·split at h
  ·exact hu
  ·exact h.elim
 ·split at h
  ·have:=b3r h
   subst this
   exact hu
  ·exact h.elim
 ·split at h
  ·split at h
   ·rename_i hb
    simp only[Bool.and_eq_true] at hb
    have h1:=Nat.eq_of_beq_eq_true hb.1.1
    have h2:=Nat.eq_of_beq_eq_true hb.1.2
    subst h1 h2
    obtain⟨b,k1,k2,k3⟩:=hu
    refine⟨b,?_,k2,hb.2⟩
    simp only[a9l]
    match hl:s.look (a3d ρ _),k3 with
    | some o,_=>exact k1
   ·exact h.elim
  ·exact h.elim
 ·split at h
  ·split at h
   ·rename_i hb
    simp only[Bool.and_eq_true] at hb
    have h1:=Nat.eq_of_beq_eq_true hb.1
    subst h1
    obtain⟨k1,k2,k3⟩:=hu
    refine⟨?_,hb.2,k3⟩
    simp only[a9l]
    match hl:s.look (a3d ρ _),k2 with
    | some o,_=>exact k1
   ·exact h.elim
  ·split at h
   ·rename_i hr hn
    refine⟨?_,hr,none,0,0,hu⟩
    simp only[a9l,hn,c3n hr]
    exact hu
   ·exact h.elim
  ·exact h.elim
 ·split at h
  ·split at h
   ·rename_i hb
    simp only[Bool.and_eq_true] at hb
    have h1:=Nat.eq_of_beq_eq_true hb.1
    subst h1
    obtain⟨k1,l,k2,k3⟩:=hu
    refine⟨hb.2,l,?_,k3⟩
    simp only[a9l]
    match hl:s.look (a3d ρ _),k1 with
    | some o,_=>exact k2
   ·exact h.elim
  ·split at h
   ·rename_i hr hn
    have hu:x = .slice none 0 0:=hu
    refine⟨hr,[],?_,none,0,0,hu⟩
    simp only[a9l,hn,hr]
    rw[hu]
   ·exact h.elim
  ·exact h.elim
 ·split at h
  ·split at h
   ·rename_i hb
    have h1:=Nat.eq_of_beq_eq_true hb
    subst h1
    exact hu
   ·exact h.elim
  ·exact h.elim
 ·split at h
  ·split at h
   ·rename_i hb
    simp only[Bool.and_eq_true] at hb
    have h1:=Nat.eq_of_beq_eq_true hb.1
    subst h1
    obtain⟨k1,k2,k3⟩:=hu
    refine⟨?_,hb.2,k3⟩
    simp only[a9l]
    match hl:s.look (a3d ρ _),k2 with
    | some o,_=>exact k1
   ·exact h.elim
  ·exact h.elim
 ·exact h.elim
theorem d5c{ρ:List (Nat×Nat)}:∀ {us vs:List AV} {l:List Value},d3q ρ s t us vs→a0m (C1 c G s.look w) us l→a0m (C1 c ⟨G.S,a9l G s t ρ,c4v G s ρ⟩ t.look w) vs l
 | [],[],[],_,_=>trivial
 | u::us,v::vs,x::l,h,hu=>by
  simp only[d3q] at h
  split at h
  ·exact⟨trivial,d5c h hu.2⟩
  ·exact⟨b6i h.1 hu.1,d5c h.2 hu.2⟩
 | [],_::_,_,h,_=>h.elim
 | _::_,[],_,h,_=>h.elim
 | [],[],_::_,_,h=>h.elim
 | _::_,_::_,[],_,h=>h.elim
theorem g8f{ρ:List (Nat×Nat)}{x:Value}{u v:AV}(h:AV.fit0 ρ s t u v)(hu:CR c G s.look w u x):CR c ⟨G.S,a9l G s t ρ,c4v G s ρ⟩ t.look w v x:=by
 rcases hu.inv with ⟨z,rfl,h1⟩|⟨cs,l,rfl,rfl,h1⟩|h1
 ·cases v with
  | any=>trivial
  | imm z' =>
   have:=b3r (show c1i z z' from h)
   subst this
   exact hu
  | _=>exact (show False from h).elim
 ·cases v with
  | any=>trivial
  | agg vs=>exact⟨l,rfl,d5c (show d3q ρ s t cs vs from h) h1⟩
  | _=>exact (show False from h).elim
 ·cases u with
  | agg cs=>exact (show False from h1).elim
  | _=>exact (b6i (show AV.fit1 ρ s t _ v by cases v<;>exact h) h1).toCR
theorem f4s{ρ:List (Nat×Nat)}:∀ {us vs:List AV} {l:List Value},f9w ρ s t us vs→a0m (CR c G s.look w) us l→a0m (CR c ⟨G.S,a9l G s t ρ,c4v G s ρ⟩ t.look w) vs l
 | [],[],[],_,_=>trivial
 | u::us,v::vs,x::l,h,hu=>by
  simp only[f9w] at h
  split at h
  ·exact⟨trivial,f4s h hu.2⟩
  ·exact⟨g8f h.1 hu.1,f4s h.2 hu.2⟩
 | [],_::_,_,h,_=>h.elim
 | _::_,[],_,h,_=>h.elim
 | [],[],_::_,_,h=>h.elim
 | _::_,_::_,[],_,h=>h.elim
theorem g4t{u v:FV}(h:g2q u v):u=v:=by
 unfold g2q at h
 split at h
 ·rename_i F hF
  have:=FV.as_some hF
  rw[this,h]
 ·exact h.elim
theorem g9f{ρ:List (Nat×Nat)}{x:Value}{u v:AV}(h:AV.fit ρ s t u v)(hu:VR c G s.look w u x):VR c ⟨G.S,a9l G s t ρ,c4v G s ρ⟩ t.look w v x:=by
 cases u with
 | agg us =>
  obtain⟨l,h1,h2⟩:=hu
  cases v with
  | any=>trivial
  | agg vs=>exact⟨l,h1,d5c (show d3q ρ s t us vs from h) h2⟩
  | imm z =>
   obtain⟨τ,q⟩:=z
   simp only[AV.fit] at h
   split at h
   ·rename_i y hy
    have hr:RdV w G.S ⟨τ,y⟩ x:=e3z (c:=c) (G:=G) (lk:=s.look) (w:=w) (x:=x) hy ⟨l,h1,h2⟩
    have h':y=q:=h
    show RdV w G.S ⟨τ,q⟩ x
    rw[←h']
    exact hr
   ·exact h.elim
  | _=>exact (show False from h).elim
 | tup us =>
  cases v with
  | any=>trivial
  | _=>exact (show False from h).elim
 | imm z =>
  cases v with
  | any=>trivial
  | imm z' =>
   have:=b3r (show c1i z z' from h)
   subst this
   exact hu
  | _=>exact (show False from h).elim
 | clo f us =>
  obtain⟨l,h1,h2⟩:=hu
  cases v with
  | any=>trivial
  | clo g vs =>
   simp only[AV.fit] at h
   split at h
   ·rename_i hb
    have hb:=Nat.eq_of_beq_eq_true hb
    subst hb
    exact⟨l,h1,f4s h h2⟩
   ·exact h.elim
  | _=>exact (show False from h).elim
 | fun_ z =>
  cases v with
  | any=>trivial
  | fun_ z' =>
   have:=g4t (show g2q z z' from h)
   subst this
   exact hu
  | _=>exact (show False from h).elim
 | any=>cases v<;>first|trivial|exact (show False from h).elim
 | undf=>cases v<;>first|trivial|exact (show False from h).elim
 | nil=>exact (b6i (u := .nil) (show AV.fit1 ρ s t .nil v by cases v<;>exact h) (show C1 c G s.look w .nil x from hu)).toVR
 | pimm z=>exact (b6i (u := .pimm z) (show AV.fit1 ρ s t (.pimm z) v by cases v<;>exact h) (show C1 c G s.look w (.pimm z) x from hu)).toVR
 | ptr i o=>exact (b6i (u := .ptr i o) (show AV.fit1 ρ s t (.ptr i o) v by cases v<;>exact h) (show C1 c G s.look w (.ptr i o) x from hu)).toVR
 | row i=>exact (b6i (u := .row i) (show AV.fit1 ρ s t (.row i) v by cases v<;>exact h) (show C1 c G s.look w (.row i) x from hu)).toVR
 | rptr i k o=>exact (b6i (u := .rptr i k o) (show AV.fit1 ρ s t (.rptr i k o) v by cases v<;>exact h) (show C1 c G s.look w (.rptr i k o) x from hu)).toVR
 | fn f=>exact (b6i (u := .fn f) (show AV.fit1 ρ s t (.fn f) v by cases v<;>exact h) (show C1 c G s.look w (.fn f) x from hu)).toVR
 | mp i=>exact (b6i (u := .mp i) (show AV.fit1 ρ s t (.mp i) v by cases v<;>exact h) (show C1 c G s.look w (.mp i) x from hu)).toVR
 | tree i=>exact (b6i (u := .tree i) (show AV.fit1 ρ s t (.tree i) v by cases v<;>exact h) (show C1 c G s.look w (.tree i) x from hu)).toVR
 | sub i k o z=>exact (b6i (u := .sub i k o z) (show AV.fit1 ρ s t (.sub i k o z) v by cases v<;>exact h) (show C1 c G s.look w (.sub i k o z) x from hu)).toVR
 | tptr i k o z=>exact (b6i (u := .tptr i k o z) (show AV.fit1 ρ s t (.tptr i k o z) v by cases v<;>exact h) (show C1 c G s.look w (.tptr i k o z) x from hu)).toVR
theorem d3r{ρ:List (Nat×Nat)}:∀ {us vs:List AV},c9v ρ s t us vs→us.length=vs.length∧∀ i,vs.getD i .any = .any∨AV.fit ρ s t (us.getD i .any) (vs.getD i .any)
 | [],[],_=>⟨rfl,fun i => .inl (by simp)⟩
 | u::us,v::vs,h=>by
  simp only[c9v] at h
  split at h
  ·obtain⟨h1,h2⟩:=d3r h
   refine⟨by simp[h1],fun i=>?_⟩
   cases i with
   | zero=>exact .inl rfl
   | succ i=>simpa using h2 i
  ·obtain⟨h1,h2⟩:=d3r h.2
   refine⟨by simp[h1],fun i=>?_⟩
   cases i with
   | zero=>exact .inr h.1
   | succ i=>simpa using h2 i
 | [],_::_,h=>h.elim
 | _::_,[],h=>h.elim
def g5y(τ':Ty)(ys:List τ'.den)(τ:Ty)(xs:List τ.den):Prop:=∀ (w:World) (η:Value) (fp:List Nat),a7i w η τ' ys fp→a7i w η τ xs fp
theorem g1m{τ':Ty}{ys:List τ'.den}{τ:Ty}{xs:List τ.den}(h:g0v τ' ys τ xs):g5y τ' ys τ xs:=by
 unfold g0v at h
 split at h
 ·rename_i h1 h2
  have h1:=of_decide_eq_true h1
  have h2:=of_decide_eq_true h2
  subst h1 h2
  have h:=b3r h
  rw[TV.as_mk] at h
  cases h
  intro w η fp hT
  obtain⟨v,l,a,cap,q1,q2,q3,q4,q5,q6⟩:=hT
  have e1:(List.map toO ys).length=ys.length:=List.length_map _
  have e2:((show List a0b from ys).map toO).map (Ty.toD (.st .oExpr))=ys.map (Ty.toD (.st .expr)):=by
   rw[List.map_map]
   refine List.map_congr_left fun x _=>?_
   show a0o.toD .oExpr (toO x)=a0o.toD .expr x
   rw[a0o.toD_cells,a0o.toD_cells]
   rfl
  refine⟨v,l,a,cap,q1,by rw[q2];exact congrArg (Value.slice a · cap) e1.symm,by exact e1 ▸ q3,q4,by exact e1 ▸ q5,?_⟩
  rcases q6 with ⟨rfl,q7,q8⟩|⟨b,f,t,q7,q8,q9,q10,q11⟩
  ·exact .inl ⟨rfl,q7,q8⟩
  ·exact .inr ⟨b,f,t,q7,q8,q9,q10,e2 ▸ q11⟩
 ·have h:=b3r h
  cases h
  exact fun _ _ _ h=>h
def g8u(ρ:List (Nat×Nat))(s t:a0c)(id:Nat):a0f→Prop
 | .box bs=>∃ as,s.look (a3d ρ id)=some (.box as)∧d3q ρ s t as bs
 | .row e τ xs=>s.look (a3d ρ id)=some (.row e τ xs)∨(s.look (a3d ρ id)=none∧xs=[])
 | .tree τ xs=>(∃ τ' ys,s.look (a3d ρ id)=some (.tree τ' ys)∧g5y τ' ys τ xs)∨(s.look (a3d ρ id)=none∧xs=[])
 | .map m=>s.look (a3d ρ id)=some (.map m)
theorem g3f{a b:MV}(h:g3e a b):a=b:=by
 unfold g3e at h
 split at h
 ·rename_i f n hf
  rw[MV.as_some hf]
  simp only
  rw[h.1,h.2]
 ·exact h.elim
theorem b5w{ρ:List (Nat×Nat)}:∀ {l:List (Nat×a0f)},b2d ρ s t l→∀ id o,(id,o)∈l→g8u ρ s t id o
 | [],_,id,o,h=>by simp at h
 | (k, .box bs)::r,h,id,o,hm=>by
  simp only[b2d] at h
  split at h
  ·rename_i as ha
   rcases List.mem_cons.1 hm with e|hm
   ·simp only[Prod.mk.injEq] at e
    obtain⟨rfl,rfl⟩:=e
    exact⟨as,ha,h.1⟩
   ·exact b5w h.2 id o hm
  ·exact h.elim
 | (k, .row e τ xs)::r,h,id,o,hm=>by
  simp only[b2d] at h
  split at h
  ·rename_i e' τ' ys ha
   split at h
   ·rename_i he
    have he:=Nat.eq_of_beq_eq_true he
    subst he
    rcases List.mem_cons.1 hm with e1|hm
    ·simp only[Prod.mk.injEq] at e1
     obtain⟨rfl,rfl⟩:=e1
     have:=b3r h.1
     cases this
     exact .inl ha
    ·exact b5w h.2 id o hm
   ·exact h.elim
  ·rename_i ha
   rcases List.mem_cons.1 hm with e1|hm
   ·simp only[Prod.mk.injEq] at e1
    obtain⟨rfl,rfl⟩:=e1
    exact .inr ⟨ha,h.1⟩
   ·exact b5w h.2 id o hm
  ·exact h.elim
 | (k, .tree τ xs)::r,h,id,o,hm=>by
  simp only[b2d] at h
  split at h
  ·rename_i τ' ys ha
   rcases List.mem_cons.1 hm with e1|hm
   ·simp only[Prod.mk.injEq] at e1
    obtain⟨rfl,rfl⟩:=e1
    exact .inl ⟨τ',ys,ha,g1m h.1⟩
   ·exact b5w h.2 id o hm
  ·rename_i ha
   rcases List.mem_cons.1 hm with e1|hm
   ·simp only[Prod.mk.injEq] at e1
    obtain⟨rfl,rfl⟩:=e1
    exact .inr ⟨ha,h.1⟩
   ·exact b5w h.2 id o hm
  ·exact h.elim
 | (k, .map m)::r,h,id,o,hm=>by
  simp only[b2d] at h
  split at h
  ·rename_i m' ha
   rcases List.mem_cons.1 hm with e1|hm
   ·simp only[Prod.mk.injEq] at e1
    obtain⟨rfl,rfl⟩:=e1
    rw[g3f h.1] at ha
    exact ha
   ·exact b5w h.2 id o hm
  ·exact h.elim
theorem d7j{ρ:List (Nat×Nat)}(h:Inv c G s a w)(hf:g2i ρ s t):∃ G',Inv c G' t a w:=by
 unfold g2i at hf
 split at hf
 case h_2=>exact hf.elim
 case h_1 hb =>
  rw[Bool.and_eq_true] at hb
  obtain⟨hb,hb4⟩:=hb
  rw[Bool.and_eq_true] at hb
  obtain⟨hb,hb3⟩:=hb
  simp only[Bool.and_eq_true] at hb
  obtain⟨hs,ho⟩:=hf
  obtain⟨hlen,hslot⟩:=d3r hs
  have hobj:=b5w ho
  have hη:∀ id b,blk (a9l G s t ρ id)=some b→∃ o,s.look (a3d ρ id)=some o∧blk (G.η (a3d ρ id))=some b:=by
   intro id b hb
   unfold a9l at hb
   split at hb
   ·rename_i o ho;exact⟨o,ho,hb⟩
   ·split at hb<;>cases hb
  refine⟨⟨G.S,a9l G s t ρ,c4v G s ρ⟩,?_⟩
  exact {
   defers:=h.defers
   size:=h.size.trans hlen
   keep:=h.keep,xLt:=h.xLt,sOld:=h.sOld,sX:=h.sX,sLt:=h.sLt
   slots:=fun i=>by
    rcases hslot i with e|e
    ·rw[show t.sl i = .any from e];trivial
    ·exact g9f e (h.slots i)
   objs:=fun id o hid=>by
    have hof:=hobj id o (a6m hid)
    cases o with
    | box bs =>
     obtain⟨as,h1,h2⟩:=hof
     obtain⟨b,l,ty,k1,k2,k3⟩:=h.objs _ _ h1
     refine⟨b,l,ty,?_,k2,d5c h2 k3⟩
     simp only[a9l,h1]
     exact k1
    | row e τ xs =>
     rcases hof with h1|⟨h1,rfl⟩
     ·obtain⟨l,k1,k2,k3⟩:=h.objs _ _ h1
      refine⟨l,?_,k2,k3⟩
      simp only[a9l,h1]
      exact k1
     ·refine⟨[],?_,rfl,by simp⟩
      simp only[a9l,h1,c3n (show c5c (t.look id)=true by rw[hid];rfl)]
      exact World.ownsRow_nil w 0 e τ.size
    | tree τ xs=>trivial
    | map m =>
     have h1:s.look (a3d ρ id)=some (.map m):=hof
     obtain⟨b,es,clock,k1,k2⟩:=h.objs _ _ h1
     refine⟨b,es,clock,?_,k2⟩
     simp only[a9l,h1]
     exact k1
   place:=fun id o b hid hbb=>by
    obtain⟨o',h1,h2⟩:=hη id b hbb
    exact h.place _ _ b h1 h2
   apart:=fun id id' o o' b hid hid' hbb hbb'=>by
    obtain⟨p,h1,h2⟩:=hη id b hbb
    obtain⟨p',h3,h4⟩:=hη id' b hbb'
    have:=h.apart _ _ _ _ b h1 h3 h2 h4
    have hinj:=d0c (fun p:Nat×a0f=>a3d ρ p.1) (d3w hb.2) (id,o) (a6m hid) (id',o') (a6m hid') this
    exact congrArg Prod.fst hinj
   trees:=by
    have hφ:∀ id b,b∈c4v G s ρ id→(∃ o,s.look (a3d ρ id)=some o)∧b∈G.φ (a3d ρ id):=fun id b hb'=>by
     unfold c4v at hb'
     split at hb'
     ·rename_i o ho;exact⟨⟨o,ho⟩,hb'⟩
     ·simp at hb'
    have htr:∀ id τ xs,t.look id=some (.tree τ xs)→(∃ τ' ys,s.look (a3d ρ id)=some (.tree τ' ys)∧g5y τ' ys τ xs)∨(s.look (a3d ρ id)=none∧xs=[]):=fun id τ xs hid=>hobj id _ (a6m hid)
    have hin:∀ id τ xs b,t.look id=some (.tree τ xs)→b∈c4v G s ρ id→∃ τ' ys,s.look (a3d ρ id)=some (.tree τ' ys)∧b∈G.φ (a3d ρ id):=fun id τ xs b hid hb'=>by
     obtain⟨⟨o,ho⟩,h2⟩:=hφ id b hb'
     rcases htr id τ xs hid with ⟨τ',ys,h1,_⟩|⟨h1,_⟩
     ·exact⟨τ',ys,h1,h2⟩
     ·rw[h1] at ho;cases ho
    exact {
     tr:=fun id τ xs hid=>by
      rcases htr id τ xs hid with ⟨τ',ys,h1,hle⟩|⟨h1,rfl⟩
      ·simp only[a9l,c4v,h1]
       exact hle _ _ _ (h.trees.tr _ _ _ h1)
      ·simp only[a9l,c4v,h1,show a3e (t.look id)=true by rw[hid];rfl]
       exact⟨_,[],none,0,rfl,rfl,by simp,by simp[maxLen],by simp, .inl ⟨rfl,⟨rfl,rfl⟩,rfl⟩⟩
     nd:=fun id τ xs hid=>by
      rcases htr id τ xs hid with ⟨τ',ys,h1,_⟩|⟨h1,_⟩
      ·simp only[c4v,h1]
       exact h.trees.nd _ _ _ h1
      ·simp only[c4v,h1]
       exact List.nodup_nil
     pl:=fun id τ xs b hid hb'=>by
      obtain⟨_,_,h1,h2⟩:=hin id τ xs b hid hb'
      obtain⟨q1,q2,q3,q4⟩:=h.trees.pl _ _ _ b h1 h2
      refine⟨q1,q2,q3,fun i o hi hbi=>?_⟩
      obtain⟨o',k1,k2⟩:=hη i b hbi
      exact q4 _ o' k1 k2
     ap:=fun id id' τ τ' xs xs' b hid hid' hb1 hb2=>by
      obtain⟨_,_,h1,h2⟩:=hin id τ xs b hid hb1
      obtain⟨_,_,h3,h4⟩:=hin id' τ' xs' b hid' hb2
      have:=h.trees.ap _ _ _ _ _ _ b h1 h3 h2 h4
      have hinj:=d0c (fun p:Nat×a0f=>a3d ρ p.1) (d3w hb.2) (id, .tree τ xs) (a6m hid) (id', .tree τ' xs') (a6m hid') this
      exact congrArg Prod.fst hinj }
   root:=fun id v hr ht=>by
    have hrg:=h.rng id v hr
    match hl:t.look id,ht with
    | some (.tree τ xs),_ =>
     have hq:=List.all_eq_true.1 hb3 _ (a6m hl)
     simp only[Bool.or_eq_true,Bool.and_eq_true,Nat.blt_eq,Nat.ble_eq] at hq
     rcases hq with hq|hq|⟨hq1,hq2⟩
     ·omega
     ·omega
     ·have hq1:=Nat.eq_of_beq_eq_true hq1
      obtain⟨l,h2⟩:=h.root id v hr hq2
      refine⟨l,?_⟩
      show a9l G s t ρ id=_
      unfold a9l
      rw[hq1]
      match hs:s.look id,hq2 with
      | some (.tree ..),_=>exact h2
   rng:=h.rng
   rootB:=fun id v hr ht=>by
    have hrg:=h.rngB id v hr
    match hl:t.look id,ht with
    | some (.box cs),_ =>
     have hq:=List.all_eq_true.1 hb4 _ (a6m hl)
     simp only[a5n,Bool.not_true,Bool.false_or,Bool.or_eq_true,Bool.and_eq_true,Nat.blt_eq] at hq
     rcases hq with hq|⟨hq1,hq2⟩
     ·omega
     ·have hq1:=Nat.eq_of_beq_eq_true hq1
      have h2:=h.rootB id v hr hq2
      show a9l G s t ρ id=_
      unfold a9l
      rw[hq1]
      match hs:s.look id,hq2 with
      | some (.box ..),_=>exact h2
   rngB:=h.rngB }
theorem a7t(hE:a1m c.P c.E)(hmix:c.P.follows .mixedOrders=true):∀ (code:Code) (Λ:Nat→a0t) (cur:Nat) (Q:Exit→a0c→Prop) (G:Gh) (s:a0c) (a:Act) (w:World),
  Inv c G s a w→awp c.E code Λ cur Q s→code.wp c.P (fun e a w=>∃ G s,Inv c G s a w∧Q e s) a w
 | .skip,Λ,cur,Q,G,s,a,w,h,hr=>wp_skip ⟨G,s,h,hr⟩
 | .region id ops draw,Λ,cur,Q,G,s,a,w,h,hr=>by
  cases draw with
  | true=>exact f8a hE hmix (Q:=Q .normal) (fun G s a w hI hq=>⟨G,s,hI,hq⟩) h hr
  | false =>
   refine wp_region ?_
   have:=c9p hE (ops:=ops) (Q:=Q .normal) (Q':=fun e a w=>∃ G s,Inv c G s a w∧Q e s) (fun G s a w hI hq=>⟨G,s,hI,hq⟩) ops.toList 0 [] G s a w (by simp) h hr
   rw[List.range_eq_range']
   simpa using this
 | .seq x y,Λ,cur,Q,G,s,a,w,h,hr=>by
  simp only[awp] at hr
  split at hr
  case h_2 ι P μ fz dead ins keep os ren0 ren sub hL =>
   obtain⟨hx,hy⟩:=hr
   refine wp_seq (wp_mono (a7t hE hmix x Λ cur _ G s a w h hx) ?_)
   rintro e a' w' ⟨G',s',hI,hq⟩
   cases e with
   | normal =>
    obtain⟨j,hPj,hF⟩:=hq
    obtain⟨G3,h3⟩:=hI.freezes fz
    obtain⟨G4,h4⟩:=d7j h3 hF.ex.choose_spec
    exact a7t hE hmix y (sub j) cur Q G4 _ a' w' h4 (hy j hPj)
   | _=>exact⟨G',s',hI,hq⟩
  refine wp_seq (wp_mono (a7t hE hmix x Λ cur _ G s a w h hr) ?_)
  rintro e a' w' ⟨G',s',hI,hq⟩
  cases e with
  | normal=>exact a7t hE hmix y Λ cur Q G' s' a' w' hI hq
  | _=>exact⟨G',s',hI,hq⟩
 | .cond x p q,Λ,cur,Q,G,s,a,w,h,hr=>by
  simp only[awp] at hr
  split at hr
  ·rename_i t ht
   have hx:=a1c h x
   rw[ht] at hx
   have hx:[a.eval x]=[.bool t]:=hx
   simp only[List.cons.injEq,and_true] at hx
   refine wp_cond hx ?_
   cases t with
   | true=>exact a7t hE hmix p Λ cur Q G s a w h (hr.1 rfl)
   | false=>exact a7t hE hmix q Λ cur Q G s a w h (hr.2 rfl)
  ·exact hr.elim
 | .block id x,Λ,cur,Q,G,s,a,w,h,hr=>by
  refine wp_block (wp_mono (a7t hE hmix x Λ id _ G s a w h hr) ?_)
  rintro e a' w' ⟨G',s',hI,hq⟩
  cases e with
  | exit i =>
   simp only at hq
   simp only[Exit.inBlock]
   split at hq
   ·rename_i hi
    rw[if_pos (Nat.eq_of_beq_eq_true hi)]
    exact⟨G',s',hI,hq⟩
   ·rename_i hi
    have:i≠id:=fun e=>by subst e;simp at hi
    rw[if_neg this]
    exact⟨G',s',hI,hq⟩
  | _=>exact⟨G',s',hI,hq⟩
 | .loop x,Λ,cur,Q,G,s,a,w,h,hr=>by
  simp only[awp] at hr
  split at hr
  ·exact hr.elim
  ·rename_i ι P μ fz dead ins keep os ren0 ren sub hL
   obtain⟨⟨i0,hP0,hF0⟩,hround⟩:=hr
   obtain⟨G1,h1⟩:=h.freezes fz
   obtain⟨G2,h2⟩:=d7j h1 hF0.ex.choose_spec
   refine wp_loop_ghost (fun n a w=>∃ i G,P i∧μ i=n∧Inv c G (c1n s (dead++Code.asg x) (ins i) keep (os i)) a w) (μ i0) ⟨i0,G2,hP0,rfl,h2⟩ ?_
   rintro n a' w' ⟨i,G',hP,rfl,hI⟩
   refine wp_mono (a7t hE hmix x (sub i) cur _ G' _ a' w' hI (hround i hP)) ?_
   rintro e a'' w'' ⟨G'',s'',hI'',hq⟩
   cases e with
   | normal =>
    obtain⟨j,hPj,hlt,hF⟩:=hq
    obtain⟨G3,h3⟩:=hI''.freezes fz
    obtain⟨G4,h4⟩:=d7j h3 hF.ex.choose_spec
    exact⟨μ j,hlt,j,G4,hPj,rfl,h4⟩
   | _=>exact⟨G'',s'',hI'',hq⟩
 | .exit id,Λ,cur,Q,G,s,a,w,h,hr=>wp_exit ⟨G,s,h,hr⟩
 | .ret,Λ,cur,Q,G,s,a,w,h,hr=>wp_ret ⟨G,s,h,hr⟩
 | .label l,Λ,cur,Q,G,s,a,w,h,hr=>wp_label ⟨G,s,h,hr⟩
 | .rangeFunc ..,_,_,_,_,_,_,_,_,hr=>hr.elim
 | .scope ..,_,_,_,_,_,_,_,_,hr=>hr.elim
 | .goto ..,_,_,_,_,_,_,_,_,hr=>hr.elim
 | .refuse ..,_,_,_,_,_,_,_,_,hr=>hr.elim
end
end Go.Proofs.Ytlaoejdeanljgaa

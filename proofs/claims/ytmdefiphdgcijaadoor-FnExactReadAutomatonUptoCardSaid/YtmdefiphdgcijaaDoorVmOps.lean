/- The operations that change nothing of what is there: what the abstract machine says of them, they do. -/
import Derived.Test.YtmdefiphdgcijaaDoorVmMake
import Derived.Lib.Strings
set_option linter.unusedVariables false
set_option linter.unusedSimpArgs false
namespace Go.Proofs.YtmdefiphdgcijaaDoor
def LV(d:Option Nat)(v:AV):a0d→Prop
 | .box _=>∃ i,d=some i∧v = .ptr i 0
 | .row .. => ∃ i,d=some i∧v = .row i
 | .tree .. => False
 | .map .. => ∃ i,d=some i∧v = .mp i
def e3m(c:Ctx)(G:Gh)(lk:Nat→Option a0d)(w:World)(x:Value):a0d→Prop
 | .box cs=>∃ b l t,x = .pointer (some ⟨b,0,none⟩)∧w.heap[b]?=some (.cells l.toArray t (0,0))∧a0g (C1 c G lk w) cs l
 | .row e τ xs=>∃ l,w.ownsRow 0 e τ.size x xs.length l∧RdL w G.S (xs.map τ.toD) l∧xs.length≤140737488355328
 | .tree .. => False
 | .map m=>∃ b es clock,x = .map (some b)∧w.heap[b]?=some (.map es clock)∧c5q m es
def b4k(c:Ctx)(G:Gh)(sl:Nat→AV)(n:Nat)(lk:Nat→Option a0d)(d:Option Nat)(a:Act)(w:World)(v:AV)(ob:Option a0d)(a':Act)(w':World):Prop :=
 ∃ x S',a'=a.put d x∧a0l c ⟨S',G.η,G.φ⟩ sl n lk a w' ∧
  match ob with
  | none=>VR c ⟨S',G.η,G.φ⟩ lk w' v x
  | some o=>LV d v o∧e3m c ⟨S',G.η,G.φ⟩ lk w' x o∧∀ b,blk x=some b→w.heap.size≤b∧b<w'.heap.size∧¬ S' b
section
variable {c:Ctx} {G:Gh} {sl:Nat→AV} {n:Nat} {lk:Nat→Option a0d} {a:Act} {w w':World}
theorem a0l.grow(h:a0l c G sl n lk a w)(hk:a1p (fun _=>False) w w'){S':Nat→Prop}(hS:∀ b,b<w.heap.size→(S' b↔G.S b))(hLt:∀ b,S' b→b<w'.heap.size):a0l c ⟨S',G.η,G.φ⟩ sl n lk a w':=by
 refine h.world ⟨hk.os,hk.tape,hk.output,hk.size,fun b hb _=>hk.block b hb (fun h=>h)⟩ (fun b hb=>(hS b (h.sLt b hb)).2 hb) hS (fun b hb=>?_) hLt (fun b hb=>?_) (fun id o b ho hb=>?_) (fun id τ xs b ht hb=>hk.block b (h.trees.pl id τ xs b ht hb).2.2.1 (fun h=>h))
 ·have h1:=h.sX b hb
  exact (hS b (h.sLt b h1)).2 h1
 ·refine hk.block b ?_ (fun h=>h)
  rcases hb with hb|hb
  ·exact h.sLt b hb
  ·exact Nat.lt_of_lt_of_le hb.1 h.keep.size
 ·exact hk.block b (h.place id o b ho hb).2.2 (fun h=>h)
theorem a5m(w:World)(o:Obj):a1p (fun _=>False) w (w.alloc o):=⟨rfl,rfl,rfl,by simp,fun b hb _=>RowKit.Below.heap_alloc w o b hb⟩
theorem a0l.alloc(h:a0l c G sl n lk a w)(o:Obj):a0l c G sl n lk a (w.alloc o) :=
 h.grow (S':=G.S) (a5m w o) (fun _ _=>Iff.rfl) (fun b hb=>by have:=h.sLt b hb;simp;omega)
theorem a0l.stNew(h:a0l c G sl n lk a w)(hk:a1p (fun _=>False) w w')(b:Nat)(hb:St c G.S b):w'.heap[b]?=w.heap[b]?:=by
 refine hk.block b ?_ (fun h=>h)
 rcases hb with hb|hb
 ·exact h.sLt b hb
 ·exact Nat.lt_of_lt_of_le hb.1 h.keep.size
theorem a0l.c1New(h:a0l c G sl n lk a w)(hk:a1p (fun _=>False) w w'){v:AV}{x:Value}(hv:C1 c G lk w v x):C1 c G lk w' v x :=
 hv.mono (fun _ _=>⟨a2p.refl _,rfl⟩) (fun _ h=>h) (h.stNew hk)
theorem a1n{o:Oper}{v:AV}{x:Value}{Q:Exit→Act→World→Prop}(hI:a0l c G sl n lk a w)(hr:(execOp a.eval o).run c.P w = .ok (.value x) w)(hv:VR c G lk w v x) :
  o.wp c.P a w (b4k c G sl n lk o.dst a w v none) Q:=by
 unfold Oper.wp
 rw[hr]
 exact⟨x,G.S,rfl,hI,hv⟩
theorem c0d{o:Oper}{v:AV}{ob:a0d}{x:Value}{Q:Exit→Act→World→Prop}(hI0:a0l c G sl n lk a w)(hr:(execOp a.eval o).run c.P w = .ok (.value x) w')(hI:a0l c G sl n lk a w')
  (hL:LV o.dst v ob) (hN:e3m c G lk w' x ob) (hb:∀ b,blk x=some b→w.heap.size≤b∧b<w'.heap.size) :
  o.wp c.P a w (b4k c G sl n lk o.dst a w v (some ob)) Q:=by
 unfold Oper.wp
 rw[hr]
 exact⟨x,G.S,rfl,hI,hL,hN,fun b h=>⟨(hb b h).1,(hb b h).2,fun hs=>by have:=hI0.sLt b hs;have:=(hb b h).1;omega⟩⟩
theorem e1t{e:TypeId}{τ:Ty}{xs:List τ.den}{x:Value}{l:List Value}{S S':Nat→Prop}(h1:w.ownsRow 0 e τ.size x xs.length l)(h2:RdL w S (xs.map τ.toD) l)(h3:xs.length≤140737488355328)(hS:∀ b,S b→S' b)(hb:∀ b,blk x=some b→S' b) :
  Rd w S' (Ty.toD (.slice τ) xs) [x]:=by
 rcases h1.2 with ⟨hv,hn⟩|⟨g,cap,cur,hv,_,hh,hnc,hcm,hcs,htk⟩
 ·have hx:xs=[]:=List.eq_nil_of_length_eq_zero hn
  subst hx
  exact⟨none,0,by simp[hv],by simp,by simp[maxLen],by simp, .inl rfl⟩
 ·refine⟨some ⟨g,0,none⟩,cap,by simp[hv],by simpa using hnc,hcm,by simpa using h3,?_⟩
  refine .inr ⟨g,0,rfl,hb g (by rw[hv];rfl),?_⟩
  refine RdL.row _ g 0 (h2.keep hS (fun _ _=>rfl)) fun j v hj=>?_
  have:=h1.cells (g:=g) (by rw[hv];rfl) j v hj
  rw[Addr.add_lit] at this
  exact this
theorem e7p{o:Oper}{τ:Ty}{xs:List τ.den}{e:TypeId}{x:Value}{l:List Value}{Q:Exit→Act→World→Prop}(hI:a0l c G sl n lk a w)(hr:(execOp a.eval o).run c.P w = .ok (.value x) w')(hk:a1p (fun _=>False) w w')
  (h1:w'.ownsRow 0 e τ.size x xs.length l) (h2:RdL w' G.S (xs.map τ.toD) l) (h3:xs.length≤140737488355328) (hb:∀ b,blk x=some b→w.heap.size≤b∧b<w'.heap.size) :
  o.wp c.P a w (b4k c G sl n lk o.dst a w (.imm ⟨.slice τ,xs⟩) none) Q:=by
 unfold Oper.wp
 rw[hr]
 refine⟨x,fun b=>G.S b∨blk x=some b,rfl,hI.grow hk (fun b hb'=>⟨fun q=>q.elim id fun q=>absurd (hb b q).1 (by omega), .inl⟩) fun b q=>q.elim (fun q=>Nat.lt_of_lt_of_le (hI.sLt b q) hk.size) fun q=>(hb b q).2,?_⟩
 exact e1t h1 h2 h3 (fun _ q => .inl q) (fun _ q => .inr q)
theorem d5r{v:TV}(h:v.flat=true){S S':Nat→Prop}{w w':World}{cs:List Value}(hr:Rd w S v.toD cs):Rd w' S' v.toD cs:=by
 have one:∀ u:TV,u.τ.agg=false→(match u.τ with | .slice _=>false | .mv _=>false|_=>true)=true→∀ cs,Rd w S u.toD cs→Rd w' S' u.toD cs:=by
  intro u h1 h2 cs h3
  obtain⟨τ,y⟩:=u
  cases τ<;>first|exact h3|(cases h1;done)|(simp at h2;done)
 obtain⟨τ,y⟩:=v
 cases τ with
 | st s =>
  rw[show TV.toD ⟨.st s,y⟩=s.toD y from rfl,a0h.toD_cells] at hr ⊢
  refine a1r.all2.2 ((a1r.all2.1 hr).imp fun u x hu hx=>?_)
  refine one u ?_ (List.all_eq_true.1 h u hu) _ hx
  have:=a0h.leaf_cells s y u hu
  obtain⟨τ',z⟩:=u
  cases τ' with
  | st s'=>simp[TV.toD,Ty.toD,a0h.toD_cells,D.leaf] at this
  | _=>rfl
 | slice t=>simp[TV.flat,TV.cells] at h
 | mv t=>simp[TV.flat,TV.cells] at h
 | ptr=>exact hr
 | int k=>exact hr
 | bool=>exact hr
 | str=>exact hr
theorem d7o{v:TV}(h:v.flat=true){S S':Nat→Prop}{w w':World}{x:Value}(hr:RdV w S v x):RdV w' S' v x:=by
 obtain⟨τ,y⟩:=v
 cases τ with
 | st s =>
  obtain⟨cs,h1,h2⟩:=hr
  exact⟨cs,h1,d5r (v:=⟨.st s,y⟩) h h2⟩
 | _=>exact d5r (v:=⟨_,y⟩) (w:=w) (w':=w') (S:=S) (S':=S') h hr
theorem c2g{lk':Nat→Option a0d}(hlk:∀ id o,lk' id=some o→lk id=some o):∀ id o,b2t lk' id=some o→lk id=some o:=by
 intro id o h
 unfold b2t at h
 split at h
 ·rename_i cs hc
  simp only[Option.some.injEq] at h
  subst h
  exact hlk _ _ hc
 ·cases h
theorem c2h{lk':Nat→Option a0d}:∀ id e τ xs,b2t lk' id≠some (.row e τ xs):=by
 intro id e τ xs h
 unfold b2t at h
 split at h<;>simp at h
theorem b9a{lk':Nat→Option a0d}:∀ id τ xs,b2t lk' id≠some (.tree τ xs):=by
 intro id τ xs h
 unfold b2t at h
 split at h<;>simp at h
theorem e6d{τ:Ty}{cs:List Value}{x:τ.den}{S:Nat→Prop}(h:RdV w S ⟨τ,x⟩ (mkV τ cs))(hl:cs.length=τ.size):Rd w S (τ.toD x) cs:=by
 cases τ with
 | st s =>
  obtain⟨cs',h1,h2⟩:=h
  simp only[mkV,Value.agg.injEq] at h1
  have:cs=cs':=by have:=congrArg Array.toList h1;simpa using this
  subst this
  exact h2
 | _ =>
  match cs,hl with
  | [v],_=>exact h
theorem CR.toVR{v:AV}{x:Value}(h:CR c G lk w v x):VR c G lk w v x:=by
 cases v with
 | imm v=>exact h
 | agg cs=>exact h
 | any=>trivial
 | undf=>exact h
 | tup _=>exact h.elim
 | clo _ _=>exact h.elim
 | nil=>exact h
 | pimm v=>exact h
 | ptr i o=>exact h
 | row i=>exact h
 | rptr i k o=>exact h
 | fn f=>exact h
 | tree i=>exact h
 | sub i k o z=>exact h
 | tptr i k o z=>exact h
 | fun_ v=>exact h
 | mp i=>exact h
theorem C1.toCR{v:AV}{x:Value}(h:C1 c G lk w v x):CR c G lk w v x:=by
 cases v with
 | imm v=>exact C1.toVR (v := .imm v) h
 | agg cs=>exact h.elim
 | tup cs=>exact h.elim
 | clo f cs=>exact h.elim
 | _=>exact h
theorem CR.inv{v:AV}{x:Value}(h:CR c G lk w v x):(∃ u,v = .imm u∧RdV w G.S u x)∨(∃ cs l,v = .agg cs∧x = .agg l.toArray∧a0g (C1 c G lk w) cs l)∨C1 c G lk w v x:=by
 cases v with
 | imm v=>exact .inl ⟨v,rfl,h⟩
 | agg cs =>
  obtain⟨l,h1,h2⟩:=h
  exact .inr (.inl ⟨cs,l,rfl,h1,h2⟩)
 | _=>exact .inr (.inr h)
theorem VR.toCR{v:AV}{x:Value}(h:VR c G lk w v x)(hc:v.capOk=true):CR c G lk w v x:=by
 cases v with
 | tup _=>cases hc
 | clo _ _=>cases hc
 | undf=>cases hc
 | fun_ _=>cases hc
 | _=>exact h
theorem c6a{S:Nat→Prop}{lk':Nat→Option a0d}(hI:a0l c G sl n lk a w)(hlk:∀ id o,lk' id=some o→lk id=some o)
  (hrd:∀ (τ:Ty) v x (y:τ.den),asT lk' τ v=some y→VR c G lk w v x→RdV w S ⟨τ,y⟩ x) {τ:Ty} {v:AV} {x:Value} {y:τ.den} (hy:c1t lk' τ v=some y) (hx:VR c G lk w v x):c5p w S (.ref ⟨τ,y⟩) x:=by
 unfold c1t at hy
 split at hy
 ·rename_i u hu
  obtain⟨b,o,cs,h1,h2,h3,h4⟩:=b2r hI.objs hlk hu hx
  have h5:=e6d (hrd _ _ _ _ hy h4) h3
  have hpos:=τ.size_pos
  have hc0:=h2 0 (cs[0]'(by omega)) (List.getElem?_eq_getElem (by omega))
  exact⟨b,o,cs,h1,World.block_lt_of_cell? w _ hc0,h2,h5⟩
 ·cases hy
theorem c2v{S:Nat→Prop}{lk':Nat→Option a0d}(hI:a0l c G sl n lk a w)(hlk:∀ id o,lk' id=some o→lk id=some o)
  (hrd:∀ (τ:Ty) v x (y:τ.den),asT lk' τ v=some y→VR c G lk w v x→RdV w S ⟨τ,y⟩ x) :
  ∀ {ks:List (Bool×Ty)} {vs:List AV} {as:List Arg} {xs:List Value},b9z lk' ks vs=some as→a0g (CR c G lk w) vs xs→a0g (c5p w S) as xs
 | [],[],as,xs,h,hv=>by
  simp only[b9z,Option.some.injEq] at h
  subst h
  match xs,hv with
  | [],_=>trivial
 | (true,τ)::ks,v::vs,as,xs,h,hv=>by
  simp only[b9z] at h
  split at h
  ·rename_i y hy
   split at h
   ·rename_i r hr
    simp only[Option.some.injEq] at h
    subst h
    match xs,hv with
    | x::xs,hv=>exact⟨c6a hI hlk hrd hy hv.1.toVR,c2v hI hlk hrd hr hv.2⟩
   ·cases h
  ·cases h
 | (false,τ)::ks,v::vs,as,xs,h,hv=>by
  simp only[b9z] at h
  split at h
  ·rename_i y hy
   split at h
   ·rename_i r hr
    simp only[Option.some.injEq] at h
    subst h
    match xs,hv with
    | x::xs,hv=>exact⟨hrd _ _ _ _ hy hv.1.toVR,c2v hI hlk hrd hr hv.2⟩
   ·cases h
  ·cases h
 | [],_::_,_,_,h,_=>by cases h
 | (true,_)::_,[],_,_,h,_=>by cases h
 | (false,_)::_,[],_,_,h,_=>by cases h
theorem c8y(hE:a0r c.P c.E){f:FuncId}{caps:List Arg}:∀ (ps:List Ty) (r:Ty) (acc:List Arg),c3n c.P f caps ps r (d3p c.E f caps ps r acc) acc
 | [],r,acc=>by
  show (d3p c.E f caps [] r acc).1→_
  intro hp
  generalize hF:d3p c.E f caps [] r acc=F at hp ⊢
  rw[d3p] at hF
  split at hF
  ·rename_i pre v hc
   split at hF
   ·rename_i y hy
    subst hF
    have:=TV.as_some hy
    subst this
    obtain⟨h1,h2⟩:=hE.ctr f _ _ _ hc hp
    exact⟨h1,h2.ok0⟩
   ·subst hF
    exact hp.elim
  ·subst hF
   exact hp.elim
 | t::ts,r,acc=>fun x=>c8y hE ts r (acc++[.val ⟨t,x⟩])
theorem d4u{P:Program}{f:FuncId}{caps:List Arg}:∀ {ps:List Ty} {r:Ty} {F:FN ps r} {acc as:List Arg} {p:Prop} {y:r.den},c3n P f caps ps r F acc→b2y ps r F as=some (p,y)→p →
  (a5p P f∧d1d P f (acc++as++caps) (·=[⟨r,y⟩]))∧∀ z∈as,∃ v,z = .val v
 | [],r,F,acc,[],p,y,h,e,hp=>by
  simp only[b2y,Option.some.injEq] at e
  have h':F.1→a5p P f∧d1d P f (acc++caps) (·=[⟨r,F.2⟩]):=h
  rw[e] at h'
  refine⟨by simpa using h' hp,by simp⟩
 | t::ts,r,F,acc, .val z::zs,p,y,h,e,hp=>by
  simp only[b2y] at e
  split at e
  ·rename_i x hx
   have h':∀ x,c3n P f caps ts r (F x) (acc++[.val ⟨t,x⟩]):=h
   obtain⟨h1,h2⟩:=d4u (h' x) e hp
   have:=TV.as_some hx
   subst this
   refine⟨by simpa using h1,fun z hz=>?_⟩
   rcases List.mem_cons.1 hz with rfl|hz
   ·exact⟨_,rfl⟩
   ·exact h2 z hz
  ·cases e
 | [],_,_,_,_::_,_,_,_,e,_=>by simp[b2y] at e
 | _::_,_,_,_,[],_,_,_,e,_=>by simp[b2y] at e
 | _::_,_,_,_, .ref _::_,_,_,_,e,_=>by simp[b2y] at e
 | _::_,_,_,_, .fn _::_,_,_,_,e,_=>by simp[b2y] at e
 | _::_,_,_,_, .clo _::_,_,_,_,e,_=>by simp[b2y] at e
theorem c2y(hE:a0r c.P c.E){S:Nat→Prop}{lk':Nat→Option a0d}(hI:a0l c G sl n lk a w)(hlk:∀ id o,lk' id=some o→lk id=some o)(hSS:∀ b,G.S b→S b)
  (hrd:∀ (τ:Ty) v x (y:τ.den),asT lk' τ v=some y→VR c G lk w v x→RdV w S ⟨τ,y⟩ x) {g:AV} {x:Value} {q:FV} (h:c8x c.E lk' g=some q) (hx:VR c G lk w g x):b4j c.P w S (.clo q) x:=by
 unfold c8x at h
 split at h
 ·rename_i f cs
  split at h
  ·rename_i k _
   split at h
   ·rename_i as has
    simp only[Option.some.injEq] at h
    subst h
    obtain⟨l,h1,h2⟩:=hx
    exact⟨f,as,l,h1,c8y hE _ _ _,c2v hI hlk hrd has h2⟩
   ·cases h
  ·cases h
 ·simp only[Option.some.injEq] at h
  subst h
  obtain⟨f,caps,l,h1,h2,h3⟩:=hx
  refine⟨f,caps,l,h1,h2,h3.imp fun u y _ hy=>?_⟩
  cases u with
  | val v=>exact RdV.mono (G:=G) (G':=⟨S,G.η,G.φ⟩) hy hSS (fun _ _=>rfl)
  | ref v =>
   obtain⟨b,o,cs,k1,k2,k3,k4⟩:=hy
   refine⟨b,o,cs,k1,?_,k3,Rd.keep hSS (fun _ _=>rfl) _ k4⟩
   exact k2.elim (hI.sLt b) fun k=>Nat.lt_of_lt_of_le k.1 hI.keep.size
  | fn f=>exact hy
  | clo v=>exact hy.elim
  | own v=>exact hy.elim
  | box k=>exact hy.elim
 ·rename_i f
  split at h
  ·rename_i k _
   split at h
   ·simp only[Option.some.injEq] at h
    subst h
    exact⟨f,[],[],hx,c8y hE _ _ _,trivial⟩
   ·cases h
  ·cases h
 ·cases h
theorem a6r(hE:a0r c.P c.E){S:Nat→Prop}{lk':Nat→Option a0d}(hI:a0l c G sl n lk a w)(hlk:∀ id o,lk' id=some o→lk id=some o)(hSS:∀ b,G.S b→S b)
  (hrd:∀ (τ:Ty) v x (y:τ.den),asT lk' τ v=some y→VR c G lk w v x→RdV w S ⟨τ,y⟩ x) :
  ∀ {Ts:List TypeId} {vs:List AV} {as:List Arg} {xs:List Value},a8u c.E lk' Ts vs=some as→a0g (VR c G lk w) vs xs→a0g (b4j c.P w S) as xs
 | [],[],as,xs,h,hv=>by
  simp only[a8u,Option.some.injEq] at h
  subst h
  match xs,hv with
  | [],_=>trivial
 | T::Ts,v::vs,as,xs,h,hv=>by
  simp only[a8u] at h
  split at h
  ·rename_i p hp
   split at h
   ·rename_i r hr
    simp only[Option.some.injEq] at h
    subst h
    match xs,hv with
    | x::xs,hv =>
     refine⟨?_,a6r hE hI hlk hSS hrd hr hv.2⟩
     have hx:=hv.1
     unfold d4w at hp
     split at hp
     ·split at hp
      ·rename_i y hy
       simp only[Option.some.injEq] at hp
       subst hp
       exact hrd _ _ _ _ hy hx
      ·cases hp
     ·split at hp
      ·rename_i τ _
       split at hp
       ·rename_i y hy
        simp only[Option.some.injEq] at hp
        subst hp
        exact c6a hI hlk hrd hy hx
       ·cases hp
      ·split at hp
       ·rename_i q hq
        simp only[Option.some.injEq] at hp
        subst hp
        exact c2y hE hI hlk hSS hrd hq hx
       ·split at hp
        ·simp only[Option.some.injEq] at hp
         subst hp
         exact hx
        ·cases hp
   ·cases h
  ·cases h
 | [],_::_,_,_,h,_=>by cases h
 | _::_,[],_,_,h,_=>by cases h
theorem b9e{S:Nat→Prop}{res:List TV}{x:Value}(h:c2p w S res x){η:Nat→Value}{φ:Nat→List Nat}:VR c ⟨S,η,φ⟩ lk w (b9d res) x:=by
 match res,h with
 | [v],h=>exact h
 | [],h =>
  obtain⟨l,h1,h2⟩:=h
  exact⟨l,h1,a0g.map_left _ h2⟩
 | v::u::r,h =>
  obtain⟨l,h1,h2⟩:=h
  exact⟨l,h1,a0g.map_left _ h2⟩
theorem e1c{S S':Nat→Prop}{res:List TV}{x:Value}(hf:res.all TV.flat=true)(h:c2p w S res x):c2p w S' res x:=by
 have hall:∀ v∈res,v.flat=true:=List.all_eq_true.1 hf
 match res,h,hall with
 | [v],h,hall=>exact d7o (hall v (by simp)) h
 | [],h,hall =>
  obtain⟨l,h1,h2⟩:=h
  exact⟨l,h1,h2.imp fun v y hv hy=>d7o (hall v hv) hy⟩
 | v::u::r,h,hall =>
  obtain⟨l,h1,h2⟩:=h
  exact⟨l,h1,h2.imp fun v y hv hy=>d7o (hall v hv) hy⟩
theorem d5i(hE:a0r c.P c.E)(hI:a0l c G sl n lk a w){lk':Nat→Option a0d}(hlk:∀ id o,lk' id=some o→lk id=some o){o:Oper}{f:FuncId}{Ts:List TypeId}{vs:List AV}{xs:List Value}
  {vc:Vc} {v:AV} {ob:Option a0d} (hq:c3w c.E lk' f Ts vs=some (vc,v,ob)) (hvc:vc.ok) (hxs:a0g (VR c G lk w) vs xs)
  (hrun:a5p c.P f→(execOp a.eval o).run c.P w = .ok (.enter f xs.toArray) w) {Q:Exit→Act→World→Prop}:o.wp c.P a w (b4k c G sl n lk o.dst a w v ob) Q:=by
 have fin:∀ (S:Nat→Prop) (as:List Arg) (pre:Vc) (res:List TV),c.E.ctr f as=some (pre,res)→pre.ok→a0g (b4j c.P w S) as xs→SOk w S →
   (∀ S' w' x,a1p (fun _=>False) w w'→(∀ b,b<w.heap.size→(S' b↔S b))→(∀ b,S' b→b<w'.heap.size)→c2p w' S' res x→b4k c G sl n lk o.dst a w (b9d res) none (a.put o.dst x) w') →
   o.wp c.P a w (b4k c G sl n lk o.dst a w (b9d res) none) Q:=by
  intro S as pre res hc hpre has hlt hdone
  obtain⟨hfn,hcall⟩:=hE.ctr f as pre res hc hpre
  unfold Oper.wp
  rw[hrun hfn]
  simp only[Oper.upon]
  refine (hcall w S xs hlt has).mono ?_
  rintro e w' ⟨x,S',res',rfl,rfl,h1,h2,h3,h4⟩
  exact hdone S' w' x h1 h2 h3 h4
 unfold c3w at hq
 split at hq
 ·rename_i as has
  split at hq
  ·rename_i pre res hc
   simp only[Option.some.injEq,Prod.mk.injEq] at hq
   obtain⟨rfl,rfl,rfl⟩:=hq
   refine fin G.S as _ _ hc hvc (a6r hE hI (c2g hlk) (fun _ h=>h) (fun τ v x y h1 h2=>b9i c2h b9a h1 h2) has hxs) hI.sOk ?_
   intro S' w' x h1 h2 h3 h4
   exact⟨x,S',rfl,hI.grow h1 h2 h3,b9e h4⟩
  ·cases hq
 ·split at hq
  ·rename_i as has
   split at hq
   ·rename_i pre res hc
    split at hq
    ·rename_i hfl
     simp only[Option.some.injEq,Prod.mk.injEq] at hq
     obtain⟨rfl,rfl,rfl⟩:=hq
     refine fin (SX G lk) as _ _ hc hvc (a6r hE hI hlk (fun _ h => .inl h) (fun τ v x y h1 h2=>b9r hI.trees hI.objs hlk h1 h2) has hxs) ?_ ?_
     ·exact hI.sxOk
     ·intro S' w' x h1 h2 h3 h4
      exact⟨x,G.S,rfl,hI.grow (S':=G.S) h1 (fun _ _=>Iff.rfl) (fun b hb=>Nat.lt_of_lt_of_le (hI.sLt b hb) h1.size),b9e (e1c hfl h4)⟩
    ·cases hq
   ·cases hq
  ·cases hq
theorem e1w{o:Oper}{cl:Call}{fo:Operand}{f:FuncId}{l:List Value}(ho:o.op = .call cl)(hc:cl.callee = .value fo)(hf:a.eval fo = .func (.func f) #[] l.toArray)(hfn:a5p c.P f) :
  (execOp a.eval o).run c.P w = .ok (.enter f (cl.args.toList.map a.eval++l).toArray) w:=by
 obtain⟨fn,h1,h2,h3⟩:=hfn
 have h3':(fn.name = "runtime.NumGoroutine")=False:=by simpa using h3
 have h2':fn.body≠none:=by intro e;simp[e] at h2
 simp[execOp,ho,resolve,hc,Deferred.ofValue,hf,invoke,callFunc,h1,h2',h3']
theorem c7k(hE:a0r c.P c.E)(hI:a0l c G sl n lk a w){lk':Nat→Option a0d}(hlk:∀ id o,lk' id=some o→lk id=some o){o:Oper}{cl:Call}{fo:Operand}{g:AV}{Ts:List TypeId}{vs:List AV}
  {vc:Vc} {v:AV} {ob:Option a0d} (hq:b9j c.E lk' g Ts vs=some (vc,v,ob)) (hvc:vc.ok) (hxs:a0g (VR c G lk w) vs (cl.args.toList.map a.eval)) (hop:o.op = .call cl) (hcal:cl.callee = .value fo) (hg:VR c G lk w g (a.eval fo))
  {Q:Exit→Act→World→Prop}:o.wp c.P a w (b4k c G sl n lk o.dst a w v ob) Q:=by
 have fin:∀ (S:Nat→Prop) (as:List Arg) (q:FV) (pre:Prop) (y:q.r.den),b2y q.ps q.r q.F as=some (pre,y)→pre→a0g (b4j c.P w S) as (cl.args.toList.map a.eval)→b4j c.P w S (.clo q) (a.eval fo)→SOk w S →
   (∀ S' w' x,a1p (fun _=>False) w w'→(∀ b,b<w.heap.size→(S' b↔S b))→(∀ b,S' b→b<w'.heap.size)→c2p w' S' [⟨q.r,y⟩] x→b4k c G sl n lk o.dst a w (b9d [⟨q.r,y⟩]) none (a.put o.dst x) w') →
   o.wp c.P a w (b4k c G sl n lk o.dst a w (b9d [⟨q.r,y⟩]) none) Q:=by
  intro S as q pre y hap hpre has hclo hlt hdone
  obtain⟨f,caps,l,h1,h2,h3⟩:=hclo
  obtain⟨⟨hfn,hcall⟩,hval⟩:=d4u h2 hap hpre
  unfold Oper.wp
  rw[e1w hop hcal h1 hfn]
  simp only[Oper.upon]
  simp only[List.nil_append] at hcall
  have has0:a0g (c5p w S) as (cl.args.toList.map a.eval):=has.imp fun u z hu hz=>by
   obtain⟨v,rfl⟩:=hval u hu
   exact hz
  refine (hcall w S _ hlt (has0.append h3)).mono ?_
  rintro e w' ⟨x,S',res',rfl,rfl,h1,h2,h3,h4⟩
  exact hdone S' w' x h1 h2 h3 h4
 unfold b9j at hq
 split at hq
 ·rename_i r0 hr0
  split at hr0
  ·rename_i as has
   split at hr0
   ·rename_i q hqq
    split at hr0
    ·rename_i pre y hap
     simp only[Option.some.injEq] at hr0 hq
     subst hr0
     simp only[Prod.mk.injEq] at hq
     obtain⟨rfl,rfl,rfl⟩:=hq
     refine fin G.S as q pre y hap hvc (a6r hE hI (c2g hlk) (fun _ h=>h) (fun τ v x y h1 h2=>b9i c2h b9a h1 h2) has hxs) (c2y hE hI (c2g hlk) (fun _ h=>h) (fun τ v x y h1 h2=>b9i c2h b9a h1 h2) hqq hg) hI.sOk ?_
     intro S' w' x h1 h2 h3 h4
     exact⟨x,S',rfl,hI.grow h1 h2 h3,b9e h4⟩
    ·cases hr0
   ·cases hr0
  ·cases hr0
 ·split at hq
  ·rename_i as has
   split at hq
   ·rename_i q hqq
    split at hq
    ·rename_i pre y hap
     split at hq
     ·rename_i hfl
      simp only[Option.some.injEq,Prod.mk.injEq] at hq
      obtain⟨rfl,rfl,rfl⟩:=hq
      refine fin (SX G lk) as q pre y hap hvc (a6r hE hI hlk (fun _ h => .inl h) (fun τ v x y h1 h2=>b9r hI.trees hI.objs hlk h1 h2) has hxs) (c2y hE hI hlk (fun _ h => .inl h) (fun τ v x y h1 h2=>b9r hI.trees hI.objs hlk h1 h2) hqq hg) ?_ ?_
      ·exact hI.sxOk
      ·intro S' w' x h1 h2 h3 h4
       exact⟨x,G.S,rfl,hI.grow (S':=G.S) h1 (fun _ _=>Iff.rfl) (fun b hb=>Nat.lt_of_lt_of_le (hI.sLt b hb) h1.size),b9e (e1c (res:=[⟨q.r,y⟩]) (by simpa using hfl) h4)⟩
     ·cases hq
    ·cases hq
   ·cases hq
  ·cases hq
theorem a6h{o:Oper}{cl:Call}{fo:Operand}{f:FuncId}(ho:o.op = .call cl)(hc:cl.callee = .value fo)(hf:a.eval fo = .func (.func f) #[] #[])(hfn:a5p c.P f) :
  (execOp a.eval o).run c.P w = .ok (.enter f (cl.args.toList.map a.eval).toArray) w:=by
 obtain⟨fn,h1,h2,h3⟩:=hfn
 have h3':(fn.name = "runtime.NumGoroutine")=False:=by simpa using h3
 have h2':fn.body≠none:=by intro e;simp[e] at h2
 simp[execOp,ho,resolve,hc,Deferred.ofValue,hf,invoke,callFunc,h1,h2',h3']
 apply Array.ext'
 simp
theorem a0g.of_ops{ev:Operand→AV}(hev:∀ x,VR c G lk w (ev x) (a.eval x)):∀ l:List Operand,a0g (VR c G lk w) (l.map ev) (l.map a.eval)
 | []=>trivial
 | x::r=>⟨hev x,a0g.of_ops hev r⟩
theorem a0g.of_parts{ev:Operand→AV}(hev:∀ x,VR c G lk w (ev x) (a.eval x)):∀ l:List (Nat×Operand),
  a0g (fun p q=>p.1=q.1∧VR c G lk w p.2 q.2) (l.map fun p=>(p.1,ev p.2)) (l.map fun p=>(p.1,a.eval p.2))
 | []=>trivial
 | x::r=>⟨⟨rfl,hev x.2⟩,a0g.of_parts hev r⟩
theorem a9z{S:Nat→Prop}{t:Ty}{xs:List t.den}{x:Value}(h:RdV w S ⟨.slice t,xs⟩ x):∃ ad cap,x = .slice ad xs.length cap∧xs.length≤cap∧xs.length≤140737488355328 ∧
  (xs=[]∨∃ b o,ad=some ⟨b,o,none⟩∧S b∧a1q w S (xs.map t.toD) b o):=by
 obtain⟨ad,cap,h1,h2,h3,h4,h5⟩:=h
 simp only[List.cons.injEq,and_true,List.length_map] at h1
 exact⟨ad,cap,h1,by simpa using h2,by simpa using h4,h5.imp (fun h=>by simpa using h) id⟩
theorem e8n{S:Nat→Prop}{t:Ty}{ys:List t.den}{ad:Option Addr}{m cap:Nat}(h1:ys.length=m)(h2:m≤cap)(h3:cap≤maxLen)(h4:m≤140737488355328)
  (h5:ys=[]∨∃ b o,ad=some ⟨b,o,none⟩∧S b∧a1q w S (ys.map t.toD) b o):RdV w S ⟨.slice t,ys⟩ (.slice ad m cap):=by
 subst h1
 exact⟨ad,cap,by simp,by simpa using h2,h3,by simpa using h4,h5.imp (fun h=>by simp[h]) id⟩
theorem b2u(hE:a0r c.P c.E){T:TypeId}{t:Ty}{b e:Nat}(h:a0f c.E.ty T=some (.slice t,b,e)){bk o len cap:Nat}{k:IntKind}{i:Int}(h0:0≤i)(h1:i<len)(w:World) :
  (Instr.indexAt T (.slice (some ⟨bk,o,none⟩) len cap) (.int k i)).run c.P w = .ok (.pointer (some ⟨bk,o+i.toNat * t.size,none⟩)) w:=by
 obtain⟨h2,⟨b',e',h3⟩,_⟩:=hE.slice h
 simp[Instr.indexAt,run_underlying h2,asIntOf,h0,h1,hE.sizeOf h3 w,Addr.add_lit]
theorem c9f(s:a0h)(y:s.den)(i:Nat){f:TV}(hf:(s.fields y)[i]?=some f):((s.cells y).drop (s.offs i)).take f.τ.size=f.cells∧s.offs i+f.τ.size≤s.size:=by
 have hcl:∀ v:TV,v.cells.length=v.τ.size:=by
  rintro⟨τ,x⟩
  cases τ<;>first|rfl|exact a0h.cells_length _ _
 have key:∀ (l:List TV) (i:Nat) (f:TV),l[i]?=some f→((l.flatMap TV.cells).drop ((l.map TV.τ).take i |>.map Ty.size).sum).take f.τ.size=f.cells∧(((l.map TV.τ).take i).map Ty.size).sum+f.τ.size≤(l.flatMap TV.cells).length:=by
  intro l
  induction l with
  | nil=>intro i f h;simp at h
  | cons g l ih =>
   intro i f h
   cases i with
   | zero =>
    simp at h
    subst h
    have:=hcl g
    simp only[List.take_zero,List.map_nil,List.sum_nil,List.drop_zero,List.flatMap_cons,List.length_append,Nat.zero_add]
    exact⟨by rw[←this,List.take_left],by omega⟩
   | succ i =>
    obtain⟨h1,h2⟩:=ih i f (by simpa using h)
    simp only[List.map_cons,List.take_succ_cons,List.sum_cons,List.flatMap_cons,List.length_append,←hcl g]
    refine⟨?_,by omega⟩
    rw[←List.drop_drop,List.drop_left]
    exact h1
 have:=key _ i f hf
 rw[←a0h.cells_fields,a0h.fields_tys,a0h.cells_length] at this
 exact this
theorem c6d{S:Nat→Prop}{s:a0h}{y:s.den}{i:Nat}{f:TV}(hf:(s.fields y)[i]?=some f){cs:List Value}(h:Rd w S (TV.toD ⟨.st s,y⟩) cs):Rd w S f.toD ((cs.drop (s.offs i)).take f.τ.size):=by
 obtain⟨h1,_⟩:=c9f s y i hf
 rw[show TV.toD ⟨.st s,y⟩=s.toD y from rfl,a0h.toD_cells] at h
 have h2:=((a1r.all2.1 h).drop (s.offs i)).take f.τ.size
 rw[h1] at h2
 obtain⟨τ,x⟩:=f
 cases τ with
 | st s' =>
  show Rd w S (s'.toD x) _
  rw[a0h.toD_cells]
  exact a1r.all2.2 h2
 | _ =>
  simp only[TV.cells] at h2
  match hc:(cs.drop (s.offs i)).take (Ty.size _),h2 with
  | [v],h2=>exact h2.1
theorem e3y{S:Nat→Prop}{s:a0h}{y:s.den}{i:Nat}{f:TV}(hf:(s.fields y)[i]?=some f){cs:List Value}(h:Rd w S (s.toD y) cs):s.offs i+f.τ.size≤cs.length∧True:=by
 obtain⟨_,h1⟩:=c9f s y i hf
 have:=Rd.length _ h
 rw[a0h.toD_cells] at this
 simp only[D.size,List.length_map,a0h.cells_length] at this
 exact⟨by omega,trivial⟩
theorem Ty.size_le(τ:Ty):τ.size≤100:=by
 have:∀ s:a0h,s.size≤100:=by intro s;cases s<;>decide
 cases τ<;>first|exact this _|(simp[Ty.size];done)
theorem Rd.oneCells{S:Nat→Prop}{τ:Ty}{x:τ.den}{cs:List Value}(h:Rd w S (τ.toD x) cs):∀ u∈cs,u.oneCell'=true:=by
 cases τ with
 | st s =>
  rw[show Ty.toD (.st s) x=s.toD x from rfl,a0h.toD_cells] at h
  have ha:=a1r.all2.1 h
  intro u hu
  obtain⟨i,hi,hiu⟩:=List.getElem_of_mem hu
  have hlen:=ha.length
  obtain⟨b,hb,hr⟩:=ha.at_ i (s.cells x)[i] (List.getElem?_eq_getElem (by omega))
  have hbu:b=u:=by
   have:cs[i]?=some u:=by rw[List.getElem?_eq_getElem hi,hiu]
   rw[this] at hb;exact (Option.some.inj hb).symm
  subst hbu
  obtain⟨z,h1,h2⟩:=Rd.leafV (a0h.leaf_cells s x _ (List.getElem_mem _)) hr
  simp only[List.cons.injEq,and_true] at h1
  subst h1
  exact b8w h2
 | _ =>
  obtain⟨z,rfl,h2⟩:=Rd.leafV (a8d (v:=⟨_,x⟩) rfl) h
  intro u hu
  simp only[List.mem_singleton] at hu
  subst hu
  exact b8w h2
theorem RdL.oneCells{S:Nat→Prop}{τ:Ty}:∀ {xs:List τ.den} {l:List Value},RdL w S (xs.map τ.toD) l→∀ u∈l,u.oneCell'=true
 | [],l,h=>by rw[show l=[] from h];simp
 | x::xs,l,h=>by
  obtain⟨c1,r,rfl,h2,h3⟩:=h
  intro u hu
  rcases List.mem_append.1 hu with hu|hu
  ·exact Rd.oneCells h2 u hu
  ·exact RdL.oneCells h3 u hu
def Src(w:World)(S:Nat→Prop)(τ:Ty)(ys:List τ.den)(z:Value):Prop :=
 ∃ ad cap,z = .slice ad ys.length cap∧(ys=[]∨∃ b o news,ad=some ⟨b,o,none⟩∧a1x w b o news∧RdL w S (ys.map τ.toD) news)
theorem c4z{lk lk':Nat→Option a0d}(hlk:∀ id o,lk' id=some o→lk id=some o)(id:Nat)(o:a0d)(h:c6v lk' id=some o):lk id=some o:=by
 unfold c6v at h
 split at h
 ·cases h
 ·exact hlk id o h
theorem e3c{lk:Nat→Option a0d}(id:Nat)(τ:Ty)(xs:List τ.den):c6v lk id≠some (.tree τ xs):=by
 unfold c6v
 split
 ·simp
 ·rename_i hno;exact hno _ _
theorem e4z(hobj:∀ id o,lk id=some o→OR c G lk w id o){lk':Nat→Option a0d}(hlk:∀ id o,lk' id=some o→lk id=some o)(hnt:∀ id τ xs,lk' id≠some (.tree τ xs)){τ:Ty}{v:AV}{z:Value}{ys:List τ.den}(h:a5q lk' (.slice τ) v=some ys)
  (hv:C1 c G lk w v z):Src w G.S τ ys z:=by
 cases v with
 | imm u =>
  have e:=TV.as_some h
  subst e
  obtain⟨ad,cap,h1,h2,h3,h4⟩:=a9z (show RdV w G.S ⟨.slice τ,ys⟩ z from hv.2)
  refine⟨ad,cap,h1,h4.imp id ?_⟩
  rintro⟨b,o,h5,h6,h7⟩
  obtain⟨news,h8,h9⟩:=a1q.cells _ b o h7
  exact⟨b,o,news,h5,h9,h8⟩
 | nil =>
  simp only[a5q,Option.some.injEq] at h
  subst h
  exact⟨none,0,hv, .inl rfl⟩
 | row id =>
  simp only[a5q] at h
  split at h
  ·rename_i e τ' xs hl
   have e1:=TV.as_some h
   cases e1
   have hl':=hlk _ _ hl
   obtain⟨l,h1,h2,h3⟩:=hobj _ _ hl'
   rcases h1.2 with ⟨hv',hn⟩|⟨g,cap,cur,hv',_⟩
   ·exact⟨none,0,by rw[hv.1,hv',hn], .inl (List.eq_nil_of_length_eq_zero hn)⟩
   ·refine⟨some ⟨g,0,none⟩,cap,by rw[hv.1,hv'], .inr ⟨g,0,l,rfl,?_,h2⟩⟩
    intro j u hj
    have:=h1.cells (g:=g) (by rw[hv'];rfl) j u hj
    rw[Addr.add_lit] at this
    exact this
  ·cases h
 | tree id =>
  simp only[a5q] at h
  split at h
  ·rename_i hl
   exact absurd hl (hnt _ _ _)
  ·cases h
 | _=>cases h
theorem d4v{S:Nat→Prop}{base:Nat}(hE:a0r c.P c.E){T:TypeId}{τ:Ty}{b e n:Nat}{v z:Value}{l:List Value}{ys:List τ.den}(hT:a0f c.E.ty T=some (.slice τ,b,e))(hown:w.ownsRow base e τ.size v n l)
  (hbase:base≤w.heap.size) (hrd:Src w S τ ys z) (hroom:a2d (n+ys.length) b) (ty:TypeId) :
  ∃ v' w' news,(Builtin.append_ #[T,T] ty #[v,z]).run c.P w = .ok v' w'∧w'.ownsRow base e τ.size v' (n+ys.length) (l++news)∧w.grownBy w' v.ownBlock∧(v'.ownBlock=v.ownBlock∨v'.ownBlock=some w.heap.size) ∧
   RdL w S (ys.map τ.toD) news∧n+ys.length≤140737488355328:=by
 obtain⟨k1,⟨b',e',k2⟩,i,zv,k3,k4,k5,k6,k7⟩:=hE.slice hT
 have hzs:zv.cells.size=τ.size:=by
  have:=Rd.length _ (d1z (w:=w) (S:=S) k7)
  rwa [Ty.size_toD,Array.length_toList] at this
 have hpos:=τ.size_pos
 have hr1:(n+ys.length) * b≤140737488355328∧n+ys.length≤140737488355328:=by
  unfold a2d at hroom
  rw[Nat.mul_add,Nat.mul_one] at hroom
  omega
 have hmax:n+ys.length≤maxLen:=by simp only[maxLen];omega
 obtain⟨ad,cap,h1,h4⟩:=hrd
 subst h1
 by_cases hy:ys=[]
 ·subst hy
  simp only[List.length_nil,Nat.add_zero] at *
  cases ad with
  | none =>
   refine⟨v,w,[],?_,by simpa using hown,⟨rfl,rfl,rfl,Nat.le_refl _,fun _ _ _=>rfl⟩, .inl rfl,rfl,hr1.2⟩
   rcases hown.2 with ⟨rfl,rfl⟩|⟨g,cap',cur,rfl,_,_,hnc,_⟩
   ·simp[Builtin.append_,run_underlying k1,sizeOf,typeInfo,k3,Builtin.lenOf,Builtin.firstCells]
   ·simp[Builtin.append_,run_underlying k1,sizeOf,typeInfo,k3,Builtin.lenOf,Builtin.firstCells,hnc,storeCells]
  | some ad =>
   obtain⟨v',w',m1,m2,m3,_,m5⟩:=run_append_own_at (P:=c.P) w base T ty e i zv τ.size b k1 k3 k6 k4 k5 hzs hpos v n l hown ad 0 cap [] (by simp) (by simp) (by simp) hmax hr1.1 hbase
   exact⟨v',w',[],m1,m2,m3,m5,rfl,hr1.2⟩
 ·rcases h4 with h4|⟨bk,o',news,rfl,h8,h7⟩
  ·exact absurd h4 hy
  ·skip
   have hlen:news.length=ys.length * τ.size:=by
    have:=RdL.length (n:=τ.size) _ h7 (by
     intro d hd
     obtain⟨y,_,rfl⟩:=List.mem_map.1 hd
     exact Ty.size_toD τ y)
    simpa using this
   obtain⟨v',w',m1,m2,m3,_,m5⟩:=run_append_own_at (P:=c.P) w base T ty e i zv τ.size b k1 k3 k6 k4 k5 hzs hpos v n l hown ⟨bk,o',none⟩ ys.length cap news hlen (fun j u hj=>by rw[Addr.add_lit];exact h8 j u hj) (RdL.oneCells h7) hmax hr1.1 hbase
   exact⟨v',w',news,m1,m2,m3,m5,h7,hr1.2⟩
theorem d8i{ev:Operand→AV}(hev:∀ x,VR c G lk w (ev x) (a.eval x)){d l:Int}{lo:Option Operand}(h:b1g d (lo.map ev)=some l):(lo=none∧l=d)∨∃ k,lo.map a.eval=some (.int k l):=by
 cases lo with
 | none =>
  simp only[Option.map_none,b1g,Option.some.injEq] at h
  exact .inl ⟨rfl,h.symm⟩
 | some x =>
  simp only[Option.map_some,b1g] at h
  split at h
  ·rename_i hn
   cases hn
  ·rename_i k n hn
   simp only[Option.some.injEq] at h hn
   subst h
   have hx:=hev x
   rw[hn] at hx
   obtain⟨hx,_⟩:=hx
   simp only[List.cons.injEq,and_true] at hx
   exact .inr ⟨k,by simp[hx]⟩
  ·cases h
theorem d5g{ev:Operand→AV}(hev:∀ x,VR c G lk w (ev x) (a.eval x)){l h:Int}{len cap:Nat}{lo hi:Option Operand}(sl:Bool)(hl:b1g 0 (lo.map ev)=some l)(hh:b1g (len:Int) (hi.map ev)=some h)
  (hc:a7d l h len) (hcap:len≤cap) (P:Program) (w':World):(Instr.sliceBounds sl len cap (lo.map a.eval) (hi.map a.eval) none).run P w' = .ok (l.toNat,h.toNat,cap) w':=by
 obtain⟨h0,h1,h2⟩:=hc
 have e1:(h.toNat:Int)=h:=Int.toNat_of_nonneg (by omega)
 rcases d8i hev hl with ⟨rfl,rfl⟩|⟨k,hk⟩<;>rcases d8i hev hh with ⟨rfl,rfl⟩|⟨k',hk'⟩
 ·simp[Instr.sliceBounds]
 ·simp[Instr.sliceBounds,hk',run_sliceBound,show 0≤h from by omega,show h≤(cap:Int) from by omega]
 ·simp[Instr.sliceBounds,hk,run_sliceBound,h0,h1]
 ·simp[Instr.sliceBounds,hk,hk',run_sliceBound,h0,h1,show 0≤h from by omega,show h≤(cap:Int) from by omega,e1]
theorem d6h{n m:Int}{b:Nat}(h:c4u n m b):0≤n∧n≤m∧m≤140737488355328∧(b:Int) * m≤140737488355328:=by
 obtain⟨h1,h2,h3⟩:=h
 have e:m * ((b:Int)+1)=m * b+m:=by rw[Int.mul_add,Int.mul_one]
 have p:0≤m * (b:Int):=Int.mul_nonneg (by omega) (by omega)
 have q:(b:Int) * m=m * b:=Int.mul_comm _ _
 exact⟨h1,h2,by omega,by omega⟩
theorem e8a(hE:a0r c.P c.E){T:TypeId}{τ:Ty}{b e:Nat}(hT:a0f c.E.ty T=some (.slice τ,b,e)){n m:Int}(h:c4u n m b)(w:World)
  (hst:∀ w',a1p (fun _=>False) w w'→∀ b,G.S b→w'.heap[b]?=w.heap[b]?) :
  ∃ cap cs,(Instr.makeSlice T (.int .i64 n) (.int .i64 m)).run c.P w = .ok (.slice (some ⟨w.heap.size,0,none⟩) n.toNat cap) (w.alloc (.cells cs e)) ∧
   e3m c G lk (w.alloc (.cells cs e)) (.slice (some ⟨w.heap.size,0,none⟩) n.toNat cap) (.row e τ (List.replicate n.toNat τ.zero)):=by
 obtain⟨v1,v2,v3,v4⟩:=d6h h
 obtain⟨h1,_,i,z,h3,h4,h5,h6,h7⟩:=hE.slice hT
 have hzr:=d1z (w:=w) (S:=G.S) h7
 have hzl:=Rd.length _ hzr
 rw[Ty.size_toD,Array.length_toList] at hzl
 have hr:=run_make (P:=c.P) w T e i z h1 h3 h6 .i64 .i64 n m v1 v2 (by rw[h5];omega) (by omega)
 refine⟨m.toNat,madeCells z.cells (m.toNat * i.size),hr,(madeCells z.cells (n.toNat * z.cells.size)).toList,?_,?_,by simp;omega⟩
 ·refine⟨by simp[madeCells,hzl], .inr ⟨w.heap.size,m.toNat,madeCells z.cells (m.toNat * i.size),by simp,Nat.zero_le _,heap_alloc_new w _,by simp;omega,by simp only[maxLen];omega,by simp[size_madeCells,h4],?_⟩⟩
  rw[h4,hzl,List.length_replicate]
  exact c4t _ _ _ (Nat.mul_le_mul_right _ (by omega))
 ·rw[List.map_replicate]
  exact RdL.keep (fun _ h=>h) (hst _ (a5m w _)) _ (c9x hzr n.toNat)
theorem a0r.map(hE:a0r c.P c.E){T:TypeId}{κ ε:Ty}(h:a0f c.E.mty T=some (κ,ε))(w:World) :
  ∃ kT eT,c.P.underlying T=some (.map kT eT)∧c.P.underlying kT=some (c0c κ)∧κ.key=true∧ε.key=true∧∃ z,(zeroValue eT).run c.P w = .ok z w∧ScR ε ε.zero z:=by
 have:=hE.mty T κ ε h
 unfold d7r at this
 split at this
 ·rename_i k e hu
  split at this
  ·rename_i κ' r ε' r' hk he
   simp only[Bool.and_eq_true,decide_eq_true_eq] at this
   obtain⟨rfl,rfl,h3,h4⟩:=this
   obtain⟨i,z,k1,k2,k3,k4⟩:=(hE.info he).ex
   have hz:=d1z (w:=w) (S:=fun _=>False) k4
   refine⟨k,e,hu,?_,h3,h4,z,by simp[zeroValue,typeInfo,k1,k3],?_⟩
   ·obtain⟨b,e'⟩:=r
    cases κ' with
    | int q=>exact hE.int hk
    | bool=>exact hE.bool hk
    | str=>exact hE.str hk
    | _=>cases h3
   ·have hc:z.cells.toList=[z]:=by
     cases ε'<;>cases z<;>first|rfl|(cases h4;done)|(simp[b7u,b6y] at k4;done)
    rw[hc] at hz
    exact ScR.of h4 hz
  ·cases this
 ·cases this
theorem d0o(hE:a0r c.P c.E)(hI:a0l c G sl n lk a w){lk':Nat→Option a0d}(hlk:∀ id o,lk' id=some o→lk id=some o){ev:Operand→AV}(hev:∀ x,VR c G lk w (ev x) (a.eval x))
  {o:Oper} {vc:Vc} {v:AV} {ob:Option a0d} (hq:qop c.E lk' ev o=some (vc,v,ob)) (hvc:vc.ok) {Q:Exit→Act→World→Prop} :
  o.wp c.P a w (b4k c G sl n lk o.dst a w v ob) Q:=by
 unfold qop at hq
 split at hq
 case h_1 x hop =>
  simp only[Option.some.injEq,Prod.mk.injEq] at hq
  obtain⟨rfl,rfl,rfl⟩:=hq
  exact a1n hI (by simp[execOp,hop]) (hev x)
 case h_2 x hop =>
  simp only[Option.some.injEq,Prod.mk.injEq] at hq
  obtain⟨rfl,rfl,rfl⟩:=hq
  exact a1n hI (by simp[execOp,hop]) (hev x)
 case h_3 cc x y hop =>
  split at hq
  ·rename_i hc
   simp only[Option.some.injEq,Prod.mk.injEq] at hq
   obtain⟨rfl,rfl,rfl⟩:=hq
   have h1:=hev cc
   rw[hc] at h1
   have h1:[a.eval cc]=[.bool true]:=h1
   simp only[List.cons.injEq,and_true] at h1
   exact a1n hI (by simp[execOp,hop,h1,asBool]) (hev x)
  ·rename_i hc
   simp only[Option.some.injEq,Prod.mk.injEq] at hq
   obtain⟨rfl,rfl,rfl⟩:=hq
   have h1:=hev cc
   rw[hc] at h1
   have h1:[a.eval cc]=[.bool false]:=h1
   simp only[List.cons.injEq,and_true] at h1
   exact a1n hI (by simp[execOp,hop,h1,asBool]) (hev y)
  ·cases hq
 case h_4 T hop =>
  split at hq
  ·rename_i d τ r hd hT
   simp only[Option.some.injEq,Prod.mk.injEq] at hq
   obtain⟨rfl,rfl,rfl⟩:=hq
   obtain⟨i,z,h1,h2,h3,h4⟩:=(hE.info hT).ex
   refine c0d hI (x := .pointer (some ⟨w.heap.size,0,none⟩)) (w':=w.alloc (.cells z.cells T)) ?_ (hI.alloc _) ⟨d,hd,rfl⟩ ?_ ?_
   ·simp[execOp,hop,Instr.alloc,zeroValue,typeInfo,h1,h3,newVar,newRow]
   ·exact⟨_,z.cells.toList,T,rfl,by simpa using heap_alloc_new w _,a9k h4⟩
   ·intro b hb
    simp only[blk,Option.some.injEq] at hb
    subst hb
    simp
  ·cases hq
 case h_5 T x hop =>
  split at hq
  ·rename_i d τ r hd hT
   split at hq
   ·split at hq
    ·rename_i y hy
     simp only[Option.some.injEq,Prod.mk.injEq] at hq
     obtain⟨rfl,rfl,rfl⟩:=hq
     have hrd:=RdV.cells (d1g (c:=c) (G:=G) (lk:=lk) hy (hev x))
     have hk:=a5m w (.cells (a.eval x).cells T)
     have hsz:(w.alloc (.cells (a.eval x).cells T)).heap.size=w.heap.size+1:=by simp
     have hI':=hI.grow (S':=fun b=>G.S b∨b=w.heap.size) hk (fun b hb=>⟨fun h=>h.elim id fun e=>by omega, .inl⟩) (fun b hb=>by
      rcases hb with hb|hb
      ·have:=hI.sLt b hb;omega
      ·omega)
     have hrun:(execOp a.eval o).run c.P w = .ok (.value (.pointer (some ⟨w.heap.size,0,none⟩))) (w.alloc (.cells (a.eval x).cells T)):=by
      simp[execOp,hop,Instr.box,newVar,newRow]
     unfold Oper.wp
     rw[hrun]
     refine⟨_,_,rfl,hI',?_⟩
     refine⟨w.heap.size,0,(a.eval x).cells.toList,rfl, .inl (.inr rfl),?_,Rd.keep (fun _ h => .inl h) (fun b hb=>hk.block b (hI.sLt b hb) fun h=>h) _ hrd⟩
     have:=heap_alloc_new w (.cells (a.eval x).cells T)
     exact c5y (p:=[]) (c:=(a.eval x).cells.toList) (r:=[]) (by simpa using this)
    ·cases hq
   ·split at hq
    ·rename_i cs hcs
     simp only[Option.some.injEq,Prod.mk.injEq] at hq
     obtain⟨rfl,rfl,rfl⟩:=hq
     obtain⟨h1,_,_⟩:=c0a hcs (hev x)
     refine c0d hI (x := .pointer (some ⟨w.heap.size,0,none⟩)) (w':=w.alloc (.cells (a.eval x).cells T)) ?_ (hI.alloc _) ⟨d,hd,rfl⟩ ?_ ?_
     ·simp[execOp,hop,Instr.box,newVar,newRow]
     ·exact⟨_,(a.eval x).cells.toList,T,rfl,by simpa using heap_alloc_new w _,h1.imp fun u y _ hy=>hI.c1New (a5m w _) hy⟩
     ·intro b hb
      simp only[blk,Option.some.injEq] at hb
      subst hb
      simp
    ·cases hq
  ·cases hq
 case h_6 T parts hop =>
  split at hq
  ·rename_i s r hT
   split at hq
   ·rename_i cs hcs
    simp only[Option.some.injEq,Prod.mk.injEq] at hq
    obtain⟨rfl,rfl,rfl⟩:=hq
    obtain⟨i,z,h1,h2,h3,h4⟩:=(hE.info hT).ex
    obtain⟨fs,h5,h6,h7⟩:=hE.st hT
    have hpl:fs.toList.mapM (fun f=>(c.P.info? f.type).map fun i=>(f.offset,i.size))=some (fs.toList.map fun f=>(f.offset,c.P.cellsOf f.type)):=by
     have:∀ l:List Field,(∀ f∈l,∃ i,c.P.info? f.type=some i)→l.mapM (fun f=>(c.P.info? f.type).map fun i=>(f.offset,i.size))=some (l.map fun f=>(f.offset,c.P.cellsOf f.type)):=by
      intro l
      induction l with
      | nil=>intro _;rfl
      | cons f l ih =>
       intro hl
       obtain⟨i,hi⟩:=hl f (by simp)
       simp[List.mapM_cons,hi,ih fun f hf=>hl f (by simp[hf]),Program.cellsOf]
     refine this _ fun f hf=>?_
     obtain⟨j,hj,hjf⟩:=List.getElem_of_mem hf
     obtain⟨t,b,e,_,k2,_⟩:=h7 j f (by rw[Array.getElem?_eq_getElem (by simpa using hj)];simpa using hjf)
     obtain⟨i,_,hi,_⟩:=(hE.info k2).ex
     exact⟨i,hi⟩
    have hplace:∀ i t,s.ftys[i]?=some t→(fs.toList.map fun f=>(f.offset,c.P.cellsOf f.type)).toArray[i]?=some (s.offs i,t.size):=by
     intro i t hi
     have hlt:i<fs.size:=by have:=(List.getElem?_eq_some_iff.1 hi).1;omega
     obtain⟨t',b,e,k1,k2,k3⟩:=h7 i fs[i] (Array.getElem?_eq_getElem hlt)
     rw[hi] at k1
     simp only[Option.some.injEq] at k1
     subst k1
     obtain⟨i',_,hi',hsz,_⟩:=(hE.info k2).ex
     simp[hlt,k3,Program.cellsOf,hi',hsz]
    obtain⟨l',h8,h9⟩:=d0m (c:=c) (G:=G) (lk:=lk) (w:=w) hplace hcs (a0g.of_parts hev _) (a9k h4)
    have hb:c.P.built T ((parts.map fun (i,x)=>(i,a.eval x)).toList)=some l'.toArray:=by
     unfold Program.built
     rw[h1,h5]
     simp only[h3,hpl]
     rw[←h8]
     congr 1
     simp
    refine a1n hI (x := .agg l'.toArray) ?_ ⟨l',rfl,h9⟩
    simp[execOp,hop,run_build w T _ _ hb]
   ·cases hq
  ·cases hq
 case h_7 T len parts hop =>
  split at hq
  ·rename_i d τ b e hd hT
   split at hq
   ·rename_i hlen
    split at hq
    ·rename_i xs hxs
     simp only[Bool.and_eq_true] at hlen
     have hl1:=Nat.eq_of_beq_eq_true hlen.1
     have hl2:=Nat.le_of_ble_eq_true hlen.2
     subst hl1
     obtain⟨h1,⟨b',e',h2⟩,i,z,h3,h4,h5,h6,h7⟩:=hE.slice hT
     have hpos:=τ.size_pos
     have hmax:τ.size≤100:=Ty.size_le τ
     have hbig:parts.size * τ.size≤16777216:=Nat.le_trans (Nat.mul_le_mul hl2 hmax) (by decide)
     obtain⟨r,h8,h9⟩:=c9e (c:=c) (G:=G) (lk:=lk) (w:=w) (τ:=τ) (place:=fun i=>some (i * τ.size,τ.size)) (fun _=>rfl) (l:=((Array.range (parts.size * τ.size)).map (fun j=>((if parts.size * τ.size=0 then #[] else z.cells:Array Value)[j % (if parts.size * τ.size=0 then #[] else z.cells:Array Value).size]!))).toList) hxs (a0g.of_parts hev _) (by simp)
     have hxl:=c3x hxs
     simp only[List.length_map,Array.length_toList] at hxl
     have hsz:∀ d∈xs.map τ.toD,d.size=τ.size:=by
      intro d hd
      obtain⟨y,_,rfl⟩:=List.mem_map.1 hd
      exact Ty.size_toD τ y
     have hrl:=RdL.length _ h9 hsz
     simp only[List.length_map,hxl] at hrl
     simp only[Nat.zero_mul,List.take_zero,List.nil_append,Array.toArray_toList] at h8
     have hrun:(execOp a.eval o).run c.P w = .ok (.value (.slice (some ⟨w.heap.size,0,none⟩) parts.size parts.size)) (w.alloc (.cells r.toArray e)):=by
      have e2:(parts.map fun (i,x)=>(i,a.eval x)).toList=parts.toList.map fun p=>(p.1,a.eval p.2):=by simp
      have hno:¬ (parts.size * τ.size>2 ^ 24):=by omega
      simp only[execOp,hop,Instr.buildSlice,Sem.run_bind,run_underlying h1,Result.andThen_ok,hE.sizeOf h2,if_neg hno,Sem.run_pure]
      by_cases h0:parts.size * τ.size=0
      ·simp only[h0,if_true,Sem.run_bind,Sem.run_pure,Result.andThen_ok,e2] at h8 ⊢
       rw[h8]
       simp[newRow]
      ·simp only[h0,if_false,Sem.run_bind,zeroValue,typeInfo,run_program,Result.andThen_ok,h3,h6,Sem.run_pure,e2] at h8 ⊢
       rw[h8]
       simp[newRow]
     have ho:(w.alloc (.cells r.toArray e)).ownsRow 0 e τ.size (.slice (some ⟨w.heap.size,0,none⟩) parts.size parts.size) xs.length r:=by
      rw[hxl]
      have:=World.ownsRow_lit (base:=0) (e:=e) (size:=τ.size) w r.toArray parts.size (Nat.zero_le _) (by simp only[maxLen];omega) (by simpa using hrl)
      simpa using this
     have hrd:=RdL.keep (fun _ h=>h) (fun b hb=>hI.stNew (a5m w (.cells r.toArray e)) b (.inl hb)) _ h9
     have hbb:∀ b,blk (.slice (some ⟨w.heap.size,0,none⟩) parts.size parts.size)=some b→w.heap.size≤b∧b<(w.alloc (.cells r.toArray e)).heap.size:=by
      intro b hb
      simp only[blk,Option.some.injEq] at hb
      subst hb
      simp
     split at hq
     ·simp only[Option.some.injEq,Prod.mk.injEq] at hq
      obtain⟨rfl,rfl,rfl⟩:=hq
      exact e7p hI hrun (a5m w _) ho hrd (by omega) hbb
     ·simp only[Option.some.injEq,Prod.mk.injEq] at hq
      obtain⟨rfl,rfl,rfl⟩:=hq
      exact c0d hI hrun (hI.alloc _) ⟨d,hd,rfl⟩ ⟨r,ho,hrd,by omega⟩ hbb
    ·cases hq
   ·cases hq
  ·cases hq
 case h_8 T ad hop =>
  split at hq
  ·rename_i τ r hT
   split at hq
   ·rename_i u hu
    simp only[Option.some.injEq,Prod.mk.injEq] at hq
    obtain⟨rfl,rfl,rfl⟩:=hq
    obtain⟨b,o',cs,h1,h2,h3,h4⟩:=b2r hI.objs hlk hu (hev ad)
    refine a1n hI ?_ h4
    simp only[execOp,hop,h1,Sem.run_bind,b1i hE hT h2 h3,Result.andThen_ok,Sem.run_pure]
   ·cases hq
  ·cases hq
 case h_9 x hop =>
  have key:∀ u,ev x=u→(∃ b o,a.eval x = .pointer (some ⟨b,o,none⟩))→vc = .none→v=u→ob=none→o.wp c.P a w (b4k c G sl n lk o.dst a w v ob) Q:=by
   rintro u hu ⟨b,o',hx⟩ _ rfl rfl
   refine a1n hI (x:=a.eval x) ?_ (hu ▸ hev x)
   simp only[execOp,hop,hx,Sem.run_pure]
  have hx:=hev x
  split at hq
  ·rename_i u hu
   simp only[Option.some.injEq,Prod.mk.injEq] at hq
   rw[hu] at hx
   obtain⟨b,o',cs,h1,_⟩:=hx
   exact key _ hu ⟨b,o',h1⟩ hq.1.symm hq.2.1.symm hq.2.2.symm
  ·rename_i id off hu
   simp only[Option.some.injEq,Prod.mk.injEq] at hq
   rw[hu] at hx
   obtain⟨b,_,h1,_⟩:=hx
   exact key _ hu ⟨b,off,h1⟩ hq.1.symm hq.2.1.symm hq.2.2.symm
  ·rename_i id i off hu
   simp only[Option.some.injEq,Prod.mk.injEq] at hq
   rw[hu] at hx
   obtain⟨b,_,_,_,_,_,_,_,_,h1⟩:=hx
   exact key _ hu ⟨b,_,h1⟩ hq.1.symm hq.2.1.symm hq.2.2.symm
  ·cases hq
 case h_10 T x i hop =>
  split at hq
  ·rename_i s r hT
   have hx:=hev x
   split at hq
   ·rename_i u hu
    rw[hu] at hx
    split at hq
    ·rename_i y hy
     have e:=TV.as_some hy
     subst e
     split at hq
     ·rename_i f hf
      simp only[Option.some.injEq,Prod.mk.injEq] at hq
      obtain⟨rfl,rfl,rfl⟩:=hq
      obtain⟨b,o',cs,h1,h2,h3,h4⟩:=hx
      have hlt:i<s.ftys.length:=by
       have:=(List.getElem?_eq_some_iff.1 hf).1
       rw[←a0h.fields_tys s y,List.length_map];exact this
      refine a1n hI (x := .pointer (some ⟨b,o'+s.offs i,none⟩)) ?_ ?_
      ·simp only[execOp,hop,h1,Sem.run_bind,a8l hE hT hlt,Result.andThen_ok,Sem.run_pure]
      ·refine⟨b,o'+s.offs i,(cs.drop (s.offs i)).take f.τ.size,rfl,h2,h3.part _ _,?_⟩
       exact c6d hf h4
     ·cases hq
    ·cases hq
   ·rename_i id off hu
    rw[hu] at hx
    split at hq
    ·rename_i hlt
     simp only[Option.some.injEq,Prod.mk.injEq] at hq
     obtain⟨rfl,rfl,rfl⟩:=hq
     have hlt:i<s.ftys.length:=by simpa [Nat.blt_eq] using hlt
     obtain⟨b,h1,h2,h3⟩:=hx
     refine a1n hI (x := .pointer (some ⟨b,off+s.offs i,none⟩)) ?_ ⟨b,h1,rfl,h3⟩
     simp only[execOp,hop,h2,Sem.run_bind,a8l hE hT hlt,Result.andThen_ok,Sem.run_pure]
    ·cases hq
   ·rename_i id k off hu
    rw[hu] at hx
    split at hq
    ·rename_i hlt
     simp only[Option.some.injEq,Prod.mk.injEq] at hq
     obtain⟨rfl,rfl,rfl⟩:=hq
     have hlt:i<s.ftys.length:=by simpa [Nat.blt_eq] using hlt
     obtain⟨b,m,cap,e,τ,xs,h1,h2,h3,h4⟩:=hx
     refine a1n hI (x := .pointer (some ⟨b,k * τ.size+(off+s.offs i),none⟩)) ?_ ⟨b,m,cap,e,τ,xs,h1,h2,h3,rfl⟩
     simp only[execOp,hop,h4,Sem.run_bind,a8l hE hT hlt,Result.andThen_ok,Sem.run_pure,Nat.add_assoc]
    ·cases hq
   ·cases hq
  ·cases hq
 case h_11 T x i hop =>
  split at hq
  ·rename_i s r hT
   have hx:=hev x
   split at hq
   ·rename_i u hu
    rw[hu] at hx
    split at hq
    ·rename_i y hy
     have e:=TV.as_some hy
     subst e
     split at hq
     ·rename_i f hf
      simp only[Option.some.injEq,Prod.mk.injEq] at hq
      obtain⟨rfl,rfl,rfl⟩:=hq
      obtain⟨cs,h1,h2⟩:=hx
      have hty:s.ftys[i]?=some f.τ:=by rw[←a0h.fields_tys s y,List.getElem?_map,hf];rfl
      obtain⟨h3,h4⟩:=e3y hf h2
      refine a1n hI (x:=mkV f.τ ((cs.drop (s.offs i)).take f.τ.size)) ?_ (RdV.mk_ (c6d hf h2))
      simp only[execOp,hop,h1,Sem.run_bind,d9f hE hT hty h3,Result.andThen_ok,Sem.run_pure]
     ·cases hq
    ·cases hq
   ·rename_i cs hu
    rw[hu] at hx
    split at hq
    ·rename_i τ hτ
     split at hq
     ·rename_i u hg
      simp only[Option.some.injEq,Prod.mk.injEq] at hq
      obtain⟨rfl,rfl,rfl⟩:=hq
      obtain⟨l,h1,h2⟩:=hx
      obtain⟨h3,h4,h5⟩:=c7m h2 hg
      refine a1n hI (x:=mkV τ ((l.drop (s.offs i)).take τ.size)) ?_ h3
      simp only[execOp,hop,h1,Sem.run_bind,d9f hE hT hτ h5,Result.andThen_ok,Sem.run_pure]
     ·cases hq
    ·cases hq
   ·cases hq
  ·cases hq
 case h_12 T x ix hop =>
  split at hq
  ·rename_i τ r hT
   split at hq
   ·rename_i k i hi
    have hix:=hev ix
    rw[hi] at hix
    obtain⟨hix,_⟩:=hix
    simp only[List.cons.injEq,and_true] at hix
    have hx:=hev x
    split at hq
    ·rename_i u hu
     rw[hu] at hx
     split at hq
     ·rename_i xs hxs
      have e:=TV.as_some hxs
      subst e
      simp only[Option.some.injEq,Prod.mk.injEq] at hq
      obtain⟨rfl,rfl,rfl⟩:=hq
      obtain⟨h0,h1⟩:=hvc
      obtain⟨ad,cap,h2,h3,h4,h5⟩:=a9z hx
      rcases h5 with h5|⟨b,o',h5,h6,h7⟩
      ·subst h5
       simp only[List.length_nil] at h1
       omega
      ·subst h5
       have hlt:i.toNat<xs.length:=by omega
       obtain⟨cs,m1,m2,m3⟩:=a1q.at_ (n:=τ.size) _ b o' h7 (by
        intro d hd
        obtain⟨y,_,rfl⟩:=List.mem_map.1 hd
        exact Ty.size_toD τ y) i.toNat (τ.toD (xs.getD i.toNat τ.zero)) (by simp[List.getD,hlt])
       refine a1n hI (x := .pointer (some ⟨b,o'+i.toNat * τ.size,none⟩)) ?_ ⟨b,_,cs,rfl, .inl h6,m3,m2⟩
       simp only[execOp,hop,h2,hix,Sem.run_bind,b2u hE hT h0 h1,Result.andThen_ok,Sem.run_pure]
     ·cases hq
    ·rename_i id hu
     rw[hu] at hx
     split at hq
     ·rename_i e' τ' xs hl
      split at hq
      ·rename_i hτ
       have hτ:=of_decide_eq_true hτ
       subst hτ
       simp only[Option.some.injEq,Prod.mk.injEq] at hq
       obtain⟨rfl,rfl,rfl⟩:=hq
       obtain⟨h0,h1⟩:=hvc
       obtain⟨h2,_,_⟩:=hx
       have hl':=hlk _ _ hl
       obtain⟨l,m1,_,_⟩:=hI.objs _ _ hl'
       have hlt:i.toNat<xs.length:=by omega
       rcases m1.2 with ⟨_,hn⟩|⟨g,cap,cur,hv,_⟩
       ·omega
       ·refine a1n hI (x := .pointer (some ⟨g,0+i.toNat * τ'.size,none⟩)) ?_ ⟨g,_,cap,e',τ',xs,hv,hl',hlt,by simp⟩
        simp only[execOp,hop,h2,hv,hix,Sem.run_bind,b2u hE hT h0 h1,Result.andThen_ok,Sem.run_pure]
      ·cases hq
     ·cases hq
    ·cases hq
   ·cases hq
  ·cases hq
 case h_13 T x ix hop =>
  split at hq
  ·rename_i r hT
   split at hq
   ·rename_i k i hi
    have hix:=hev ix
    rw[hi] at hix
    obtain⟨hix,_⟩:=hix
    simp only[List.cons.injEq,and_true] at hix
    have hx:=hev x
    split at hq
    ·rename_i xs hu
     rw[hu] at hx
     simp only[Option.some.injEq,Prod.mk.injEq] at hq
     obtain⟨rfl,rfl,rfl⟩:=hq
     obtain⟨s,h1,h2,h3⟩:=hx
     simp only[List.cons.injEq,and_true] at h1
     subst h2
     have hsz:s.data.toList.length=s.size:=Array.length_toList
     have hvc:a0j i s.data.toList.length:=hvc
     unfold a0j at hvc
     rw[hsz] at hvc
     have hlt:Int.toNat i<s.size:=by omega
     have he:s.data.toList.getD (Int.toNat i) 0=s[Int.toNat i]'hlt:=by
      have h5:Int.toNat i<s.data.size:=hlt
      rw[List.getD_eq_getElem?_getD,List.getElem?_eq_getElem (by simpa using h5)]
      rfl
     have hr:(execOp a.eval o).run c.P w = .ok (.value (.int .u8 (s[Int.toNat i]'hlt).toNat)) w:=by
      simp only[execOp,hop,h1,hix,Sem.run_bind,run_index_string w T s k i (hE.str hT)]
      rw[dif_pos hvc]
      rfl
     refine a1n hI hr ⟨by rw[he],?_⟩
     have:=(s.data.toList.getD (Int.toNat i) 0).toNat_lt
     exact⟨Int.natCast_nonneg _,by simp only[IntKind.max,IntKind.signed,IntKind.bits,Bool.false_eq_true,if_false];omega⟩
    ·cases hq
   ·cases hq
  ·cases hq
 case h_14 op T x y yt hop =>
  split at hq
  ·rename_i p u hu
   simp only[Option.some.injEq,Prod.mk.injEq] at hq
   obtain⟨rfl,rfl,rfl⟩:=hq
   obtain⟨z,h1,h2⟩:=e5d hE x y hu hvc (hev x) (hev y)
   refine a1n hI ?_ h2
   simp only[execOp,hop]
   rw[Sem.run_bind,h1]
   rfl
  ·cases hq
 case h_15 op xt x hop =>
  split at hq
  ·rename_i b hb
   simp only[Option.some.injEq,Prod.mk.injEq] at hq
   obtain⟨rfl,rfl,rfl⟩:=hq
   have hx:=hev x
   rw[hb] at hx
   have hx:[a.eval x]=[.bool b]:=hx
   simp only[List.cons.injEq,and_true] at hx
   exact a1n hI (x := .bool !b) (by simp[execOp,hop,hx,Op.unary]) rfl
  ·rename_i k i hb
   simp only[Option.some.injEq,Prod.mk.injEq] at hq
   obtain⟨rfl,rfl,rfl⟩:=hq
   have hx:=hev x
   rw[hb] at hx
   obtain⟨hx,_⟩:=hx
   simp only[List.cons.injEq,and_true] at hx
   have hr:=a3p hvc
   have h0:(0:Int) - i = -i:=Int.zero_sub _
   exact a1n hI (x := .int k (-i)) (by simp[execOp,hop,hx,Op.unary,Op.intArith,h0,b4i hr]) ⟨rfl,hr⟩
  ·cases hq
 case h_16 src dst x hop =>
  split at hq
  ·rename_i k1 r1 k2 r2 hs hd
   split at hq
   ·rename_i k3 i hx'
    simp only[Option.some.injEq,Prod.mk.injEq] at hq
    obtain⟨rfl,rfl,rfl⟩:=hq
    have hx:=hev x
    rw[hx'] at hx
    obtain⟨hx,_⟩:=hx
    simp only[List.cons.injEq,and_true] at hx
    have hr:=a3p hvc
    refine a1n hI (x := .int k2 i) ?_ ⟨rfl,hr⟩
    simp[execOp,hop,hx,convert,run_underlying (hE.int hs),run_underlying (hE.int hd),Conv.intToInt,b4i hr]
   ·cases hq
  ·cases hq
 case h_18 t i hop =>
  split at hq
  ·rename_i vs ht
   split at hq
   ·rename_i u hu
    simp only[Option.some.injEq,Prod.mk.injEq] at hq
    obtain⟨rfl,rfl,rfl⟩:=hq
    have hx:=hev t
    rw[ht] at hx
    obtain⟨l,h1,h2⟩:=hx
    obtain⟨z,h3,h4⟩:=h2.at_ i u hu
    refine a1n hI (x:=z) ?_ ?_
    ·simp[execOp,hop,Instr.extract,h1,h3]
    ·cases u<;>first|exact h4|exact h4.elim|trivial
   ·cases hq
  ·cases hq
 case h_19 T l cc hop =>
  split at hq
  ·rename_i d τ b e hd hT
   split at hq
   ·rename_i m m' hm hm'
    simp only[Option.some.injEq,Prod.mk.injEq] at hq
    obtain⟨rfl,rfl,rfl⟩:=hq
    have hl:=hev l
    have hc:=hev cc
    rw[hm] at hl
    rw[hm'] at hc
    obtain⟨hl,_⟩:=hl
    obtain⟨hc,_⟩:=hc
    simp only[List.cons.injEq,and_true] at hl hc
    obtain⟨cap,cs,h1,h2⟩:=e8a (c:=c) (G:=G) (lk:=lk) hE hT hvc w (fun w' hk b hb=>hI.stNew hk b (.inl hb))
    refine c0d hI ?_ (hI.alloc _) ⟨d,hd,rfl⟩ h2 ?_
    ·simp only[execOp,hop,hl,hc,Sem.run_bind,h1,Result.andThen_ok,Sem.run_pure]
    ·intro b hb
     simp only[blk,Option.some.injEq] at hb
     subst hb
     simp
   ·cases hq
  ·cases hq
 case h_17 T x lo hi mx hop =>
  split at hq
  ·rename_i τ r hT
   have hx:=hev x
   split at hq
   ·rename_i u hu
    rw[hu] at hx
    split at hq
    ·rename_i xs hxs
     have e:=TV.as_some hxs
     subst e
     split at hq
     ·rename_i l h hl hh
      simp only[Option.some.injEq,Prod.mk.injEq] at hq
      obtain⟨rfl,rfl,rfl⟩:=hq
      obtain⟨ad,cap,h2,h3,h4,h5⟩:=a9z hx
      obtain⟨k1,⟨b',e',k2⟩,_⟩:=hE.slice hT
      have hb:=d5g hev true hl hh hvc h3 c.P w
      obtain⟨v0,v1,v2⟩:=hvc
      have hrun:(execOp a.eval o).run c.P w = .ok (.value (.slice (if cap=l.toNat then ad else ad.map (·.add (l.toNat * τ.size))) (h.toNat - l.toNat) (cap - l.toNat))) w:=by
       simp only[execOp,hop,h2,Instr.sliceAt,Sem.run_bind,run_underlying k1,Result.andThen_ok,Instr.slice,Option.map_none,hb,hE.sizeOf k2,Sem.run_pure]
      refine a1n hI hrun ?_
      have hlen:((xs.take h.toNat).drop l.toNat).length=h.toNat - l.toNat:=by
       rw[List.length_drop,List.length_take];omega
      refine e8n hlen (by omega) ?_ (by omega) ?_
      ·have:=hx
       obtain⟨ad',cap',m1,m2,m3,_⟩:=this
       rw[h2] at m1
       simp only[List.cons.injEq,Value.slice.injEq,and_true] at m1
       obtain⟨_,_,rfl⟩:=m1
       omega
      ·rcases Nat.lt_or_ge l.toNat h.toNat with hlt|hge
       ·right
        rcases h5 with h5|⟨b,o',rfl,h6,h7⟩
        ·subst h5
         simp only[List.length_nil] at v2
         omega
        ·refine⟨b,o'+l.toNat * τ.size,?_,h6,?_⟩
         ·rw[if_neg (by omega)]
          simp[Addr.add_lit]
         ·rw[List.map_drop,List.map_take]
          refine a1q.drop_ _ _ _ _ (a1q.take_ _ _ _ _ h7) ?_
          intro d hd
          obtain⟨y,_,rfl⟩:=List.mem_map.1 (List.mem_of_mem_take hd)
          exact Ty.size_toD τ y
       ·left
        exact List.eq_nil_of_length_eq_zero (by omega)
     ·cases hq
    ·cases hq
   ·cases hq
  ·rename_i r hT
   have hx:=hev x
   split at hq
   ·rename_i xs hu
    rw[hu] at hx
    split at hq
    ·rename_i l h hl hh
     simp only[Option.some.injEq,Prod.mk.injEq] at hq
     obtain⟨rfl,rfl,rfl⟩:=hq
     obtain⟨s,h1,h2,h3⟩:=hx
     simp only[List.cons.injEq,and_true] at h1
     subst h2
     have hsz:s.data.toList.length=s.size:=Array.length_toList
     rw[hsz] at hvc hh
     have hb:=d5g hev false hl hh hvc (Nat.le_refl _) c.P w
     obtain⟨v0,v1,v2⟩:=hvc
     refine a1n hI (x := .string (s.extract l.toNat h.toNat)) ?_ ⟨_,rfl,?_,?_⟩
     ·have hno:¬ ((none:Option Value).isSome=true):=by simp
      simp only[execOp,hop,h1,Instr.sliceAt,Sem.run_bind,run_underlying (hE.str hT),Result.andThen_ok,Instr.slice,Option.map_none,if_neg hno,hb,Sem.run_pure]
     ·rw[Lib.extract_data,List.drop_take]
     ·have:(s.extract l.toNat h.toNat).size≤s.size:=by
       rw[ByteArray.size_extract];omega
      omega
    ·cases hq
   ·cases hq
  ·cases hq
 case h_20 cl hop =>
  have hargs:=a0g.of_ops hev cl.args.toList
  split at hq
  ·rename_i hcal
   split at hq
   ·rename_i T v1 hTs hvs
    rw[hvs] at hargs
    match hxs:cl.args.toList.map a.eval,hargs with
    | [x],hargs =>
     have hx:=hargs.1
     have hTs':cl.argTypes = #[T]:=by rw[←Array.toArray_toList (xs:=cl.argTypes),hTs]
     have hxs':cl.args.map a.eval = #[x]:=by rw[←Array.toArray_toList (xs:=cl.args.map a.eval),Array.toList_map,hxs]
     have hexec:(execOp a.eval o)=(do let d ←resolve a.eval cl o.type;invoke d.target d.args):=by simp[execOp,hop]
     have hex2:(execOp a.eval o).run c.P w=((Builtin.len_ #[T] o.type #[x]).run c.P w).andThen fun v w => .ok (.value v) w:=by
      rw[hexec]
      simp[resolve,hcal,invoke,builtin,hTs',hxs']
     split at hq
     ·rename_i t r hT
      obtain⟨k1,_,_⟩:=hE.slice hT
      have hel:c.P.elem T=r.2:=by simp[Program.elem,k1]
      have hrun:∀ ad len cap,x = .slice ad len cap→(execOp a.eval o).run c.P w = .ok (.value (.int .i64 len)) w:=by
       intro ad len cap hxx
       rw[hex2,hxx,run_len_slice w T o.type ad len cap (by rw[hel];exact k1)]
       rfl
      have hin:∀ m:Nat,m≤140737488355328→IntKind.i64.min≤(m:Int)∧(m:Int)≤IntKind.i64.max:=fun m hm=>a3p (k := .i64) ⟨by omega,by omega⟩
      split at hq
      ·simp only[Option.some.injEq,Prod.mk.injEq] at hq
       obtain⟨rfl,rfl,rfl⟩:=hq
       exact a1n hI (hrun _ _ _ hx) ⟨rfl,hin 0 (by omega)⟩
      ·rename_i t' xs
       simp only[Option.some.injEq,Prod.mk.injEq] at hq
       obtain⟨rfl,rfl,rfl⟩:=hq
       obtain⟨ad,cap,h2,h3,h4,h5⟩:=a9z hx
       exact a1n hI (hrun _ _ _ h2) ⟨rfl,hin _ h4⟩
      ·rename_i id
       split at hq
       ·rename_i e' τ' xs hl
        simp only[Option.some.injEq,Prod.mk.injEq] at hq
        obtain⟨rfl,rfl,rfl⟩:=hq
        obtain⟨h2,_,_⟩:=hx
        have hl':=hlk _ _ hl
        obtain⟨ad,cap,h3,_,h4,_⟩:=a9z (t:=τ') (e6p (hI.objs _ _ hl') hl')
        exact a1n hI (hrun _ _ _ (h2.trans h3)) ⟨rfl,hin _ h4⟩
       ·cases hq
      ·cases hq
     ·rename_i r hT
      split at hq
      ·rename_i xs
       simp only[Option.some.injEq,Prod.mk.injEq] at hq
       obtain⟨rfl,rfl,rfl⟩:=hq
       obtain⟨s,h1,h2,h3⟩:=hx
       simp only[List.cons.injEq,and_true] at h1
       subst h2
       have hsz:s.data.toList.length=s.size:=Array.length_toList
       have hin:a3d .i64 (s.size:Int):=⟨by omega,by omega⟩
       refine a1n hI (x := .int .i64 s.size) ?_ ⟨by rw[hsz],by rw[hsz];exact a3p hin⟩
       rw[hex2,h1,run_len_string w T o.type s (hE.str hT)]
       rfl
      ·cases hq
     ·rename_i hT
      split at hq
      ·cases hq
      ·cases hq
     ·cases hq
   ·cases hq
  ·rename_i hcal
   split at hq
   ·rename_i d T T' hd hTs
    split at hq
    ·rename_i τ b e hTT hT
     split at hq
     ·rename_i y hvs
      split at hq
      ·rename_i ys hys
       simp only[Option.some.injEq,Prod.mk.injEq] at hq
       obtain⟨rfl,rfl,rfl⟩:=hq
       have hTT:=Nat.eq_of_beq_eq_true hTT
       subst hTT
       rw[hvs] at hargs
       match hxs:cl.args.toList.map a.eval,hargs with
       | [x,z],hargs =>
        obtain⟨hx,hz,_⟩:=hargs
        have hx:x = .slice none 0 0:=hx
        subst hx
        have hTs':cl.argTypes = #[T,T]:=by rw[←Array.toArray_toList (xs:=cl.argTypes),hTs]
        have hxs':cl.args.map a.eval = #[.slice none 0 0,z]:=by rw[←Array.toArray_toList (xs:=cl.args.map a.eval),Array.toList_map,hxs]
        have hex2:(execOp a.eval o).run c.P w=((Builtin.append_ #[T,T] o.type #[.slice none 0 0,z]).run c.P w).andThen fun v w => .ok (.value v) w:=by
         simp[execOp,hop,resolve,hcal,invoke,builtin,hTs',hxs']
        have hzc:C1 c G lk w y z:=by
         refine hz.toC1 ?_
         cases y with
         | imm u =>
          have e:=TV.as_some hys
          subst e
          rfl
         | nil=>rfl
         | row i=>rfl
         | tree i=>rfl
         | _=>cases hys
        have hrd:=e4z hI.objs (c4z hlk) e3c hys hzc
        obtain⟨v',w',news,m1,m2,m3,m4,m5,m6⟩:=d4v (w:=w) (base:=w.heap.size) hE hT (World.ownsRow_nil w _ e τ.size) (Nat.le_refl _) hrd (n:=0) (by rw[Nat.zero_add];exact hvc) o.type
        have hk:a1p (fun _=>False) w w':=⟨m3.os,m3.tape,m3.output,m3.size,fun b hb _=>m3.block b hb (by simp[Value.ownBlock])⟩
        simp only[Nat.zero_add,List.nil_append] at m2
        refine c0d hI (x:=v') (w':=w') ?_ (hI.grow (S':=G.S) hk (fun _ _=>Iff.rfl) (fun b hb=>Nat.lt_of_lt_of_le (hI.sLt b hb) hk.size)) ⟨d,hd,rfl⟩ ⟨news,?_,?_,by simpa using m6⟩ ?_
        ·rw[hex2,m1];rfl
        ·exact⟨m2.1,m2.2.imp id fun ⟨g,cap,cur,q1,q2,q3⟩=>⟨g,cap,cur,q1,Nat.zero_le _,q3⟩⟩
        ·exact RdL.keep (fun _ h=>h) (fun b hb=>hI.stNew hk b (.inl hb)) _ m5
        ·intro b hb
         have hob:=(b5j (w:=w') (v:=v') (e:=e) ⟨m2.1,m2.2.imp id fun ⟨g,cap,cur,q1,q2,q3⟩=>⟨g,cap,cur,q1,Nat.zero_le _,q3⟩⟩)
         have hb':v'.ownBlock=some b:=hob.trans hb
         exact m2.lt b hb'
      ·cases hq
     ·cases hq
    ·cases hq
   ·cases hq
  ·rename_i f hcal
   exact d5i hE hI hlk hq hvc hargs (fun hfn=>a6h hop hcal rfl hfn)
  ·rename_i t hcal
   split at hq
   ·rename_i f hf
    have hx:=hev (.tmp t)
    rw[hf] at hx
    exact d5i hE hI hlk hq hvc hargs (fun hfn=>a6h hop hcal hx hfn)
   ·rename_i f cs hf
    have hx:=hev (.tmp t)
    rw[hf] at hx
    exact c7k hE hI hlk hq hvc hargs hop hcal hx
   ·rename_i v hf
    have hx:=hev (.tmp t)
    rw[hf] at hx
    exact c7k hE hI hlk hq hvc hargs hop hcal hx
   ·cases hq
  ·cases hq
 case h_21 T hop =>
  cases hq
 case h_22 T x ix ok hop=>cases hq
 case h_23 fn first captured hop =>
  split at hq
  ·rename_i f hfirst hcap
   have hcs:=a0g.of_ops hev captured.toList
   have hrun:(execOp a.eval o).run c.P w = .ok (.value (.func (.func f) #[] (captured.toList.map a.eval).toArray)) w:=by
    have hf:first = #[]:=by rw[←Array.toArray_toList (xs:=first),hfirst]
    simp[execOp,hop,Instr.makeFunc,hf]
    apply Array.ext'
    simp
   split at hq
   ·rename_i hnil
    simp only[Option.some.injEq,Prod.mk.injEq] at hq
    obtain⟨rfl,rfl,rfl⟩:=hq
    rw[hnil] at hcs
    match hl:captured.toList.map a.eval,hcs with
    | [],_ =>
     rw[hl] at hrun
     exact a1n hI hrun rfl
   ·simp only[Option.some.injEq,Prod.mk.injEq] at hq
    obtain⟨rfl,rfl,rfl⟩:=hq
    exact a1n hI hrun ⟨_,rfl,hcs.imp fun u y hu hy=>hy.toCR (List.all_eq_true.1 hcap u hu)⟩
  ·cases hq
 case h_24=>cases hq
end
end Go.Proofs.YtmdefiphdgcijaaDoor

/- What the functions on abstract values mean for the real ones. -/
import Derived.Test.YtmdefiphdgcijaaDoorVmEnv
set_option linter.unusedVariables false
set_option linter.unusedSimpArgs false
namespace Go.Proofs.YtmdefiphdgcijaaDoor
section
variable {c:Ctx} {G:Gh} {lk:Nat→Option a0d} {w:World}
theorem C1.toVR{v:AV}{x:Value}(h:C1 c G lk w v x):VR c G lk w v x:=by
 cases v with
 | imm v =>
  obtain⟨τ,y⟩:=v
  cases τ with
  | st s=>cases h.1
  | _=>exact h.2
 | agg cs=>exact h.elim
 | tup vs=>exact h.elim
 | clo f cs=>exact h.elim
 | _=>exact h
theorem VR.toC1{v:AV}{x:Value}(h:VR c G lk w v x)(hc:v.cell=true):C1 c G lk w v x:=by
 cases v with
 | imm v =>
  obtain⟨τ,y⟩:=v
  cases τ with
  | st s=>cases hc
  | _=>exact⟨rfl,h⟩
 | agg cs=>cases hc
 | tup vs=>cases hc
 | clo f cs=>cases hc
 | any=>cases hc
 | _=>exact h
theorem a8d{v:TV}(h:v.τ.agg=false):v.toD.leaf=true:=by
 obtain⟨τ,y⟩:=v
 cases τ<;>first|rfl|exact d4c _ _ _|cases h
theorem C1.leaf{v:AV}{x:Value}(h:C1 c G lk w v x)(hc:v.cell=true):x.oneCell'=true∧x.cells = #[x]:=by
 cases v with
 | any=>cases hc
 | undf=>cases hc
 | agg cs=>cases hc
 | tup cs=>cases hc
 | clo f cs=>cases hc
 | fun_ v=>cases hc
 | imm v =>
  obtain⟨y,h1,h2⟩:=Rd.leafV (a8d h.1) h.2
  simp only[List.cons.injEq,and_true] at h1
  subst h1
  exact⟨b8w h2,d2z h2⟩
 | nil=>rw[show x=_ from h];exact⟨rfl,rfl⟩
 | pimm v=>obtain⟨b,o,cs,rfl,_⟩:=h;exact⟨rfl,rfl⟩
 | ptr i o=>obtain⟨b,_,rfl,_⟩:=h;exact⟨rfl,rfl⟩
 | row i=>obtain⟨_,_,a,n,m,rfl⟩:=h;exact⟨rfl,rfl⟩
 | tree i=>obtain⟨_,_,_,a,n,m,rfl⟩:=h;exact⟨rfl,rfl⟩
 | sub i k o z=>cases hc
 | tptr i k o z=>cases hc
 | rptr i k o=>obtain⟨b,n,cap,e,τ,xs,_,_,_,rfl⟩:=h;exact⟨rfl,rfl⟩
 | fn f=>rw[show x=_ from h];exact⟨rfl,rfl⟩
 | mp i=>obtain⟨_,_,b,rfl⟩:=h;exact⟨rfl,rfl⟩
theorem RdV.cells{S:Nat→Prop}{v:TV}{x:Value}(h:RdV w S v x):Rd w S v.toD x.cells.toList:=by
 obtain⟨τ,y⟩:=v
 cases τ with
 | st s =>
  obtain⟨cs,rfl,h⟩:=h
  show Rd w S (s.toD y) _
  simpa [Value.cells] using h
 | _ =>
  obtain⟨z,h1,h2⟩:=Rd.leafV (a8d rfl) h
  simp only[List.cons.injEq,and_true] at h1
  subst h1
  rw[d2z h2]
  exact h
theorem RdV.mk_{S:Nat→Prop}{v:TV}{cs:List Value}(h:Rd w S v.toD cs):RdV w S v (mkV v.τ cs):=by
 obtain⟨τ,y⟩:=v
 cases τ with
 | st s=>exact⟨cs,rfl,h⟩
 | _ =>
  obtain⟨z,rfl,h2⟩:=Rd.leafV (a8d rfl) h
  exact h
def SX(G:Gh)(lk:Nat→Option a0d)(b:Nat):Prop:=G.S b∨(∃ id e τ xs,lk id=some (.row e τ xs)∧blk (G.η id)=some b)∨∃ id τ xs,lk id=some (.tree τ xs)∧b∈G.φ id
theorem a0l.sxOk{c:Ctx}{G:Gh}{sl:Nat→AV}{n:Nat}{lk:Nat→Option a0d}{a:Act}{w:World}(h:a0l c G sl n lk a w):SOk w (SX G lk) :=
 ⟨fun b q=>by
  rcases q with hb|⟨id,e,τ,ys,hid,hb⟩|⟨id,τ,ys,hid,hb⟩
  ·exact h.sLt b hb
  ·exact (h.place id _ b hid hb).2.2
  ·exact (h.trees.pl id _ _ b hid hb).2.2.1,h.sOk.2.mono (fun _ q => .inl q) fun _ _=>rfl⟩
theorem SX.of{b:Nat}(h:G.S b):SX G lk b := .inl h
theorem e6p{id:Nat}{e:TypeId}{τ:Ty}{xs:List τ.den}(ho:OR c G lk w id (.row e τ xs))(hid:lk id=some (.row e τ xs)):Rd w (SX G lk) (Ty.toD (.slice τ) xs) [G.η id]:=by
 obtain⟨l,h1,h2,h3⟩:=ho
 rcases h1.2 with ⟨hv,hn⟩|⟨g,cap,cur,hv,_,hh,hnc,hcm,hcs,htk⟩
 ·have hx:xs=[]:=List.eq_nil_of_length_eq_zero hn
  subst hx
  exact⟨none,0,by simp[hv],by simp,by simp[maxLen],by simp, .inl rfl⟩
 ·refine⟨some ⟨g,0,none⟩,cap,by simp[hv],by simpa using hnc,hcm,by simpa using h3,?_⟩
  refine .inr ⟨g,0,rfl, .inr (.inl ⟨id,e,τ,xs,hid,by rw[hv];rfl⟩),?_⟩
  refine RdL.row _ g 0 (h2.keep (fun _ h=>SX.of h) (fun _ _=>rfl)) fun j v hj=>?_
  have:=h1.cells (g:=g) (by rw[hv];rfl) j v hj
  rw[Addr.add_lit] at this
  exact this
theorem a4l.rd{S:Nat→Prop}{η:Value}{τ:Ty}{xs:List τ.den}{fp:List Nat}(h:a4l w η τ xs fp){x:Value}{l:List Value}(hx:η = .tuple (x::l).toArray)(hS:∀ b∈fp,S b):Rd w S (Ty.toD (.slice τ) xs) [x]:=by
 obtain⟨v,l',a,cap,h1,h2,h3,h4,h5,h6⟩:=h
 rw[hx] at h1
 simp only[Value.tuple.injEq,List.toArray_inj,List.cons.injEq] at h1
 obtain⟨rfl,rfl⟩:=h1
 refine⟨a,cap,by simp[h2],by simpa using h3,h4,by simpa using h5,?_⟩
 rcases h6 with ⟨rfl,_,_⟩|⟨b,f,t,rfl,rfl,k1,_,k2⟩
 ·exact .inl rfl
 ·exact .inr ⟨b,0,rfl,hS b (by simp),a0x.rd _ (p:=[]) (by simpa using k1) k2 fun b hb=>hS b (by simp[hb])⟩
theorem f0e(htr:c5s c G lk w){id:Nat}{τ:Ty}{xs:List τ.den}{x:Value}(hid:lk id=some (.tree τ xs))(hx:C1 c G lk w (.tree id) x):Rd w (SX G lk) (Ty.toD (.slice τ) xs) [x]:=by
 obtain⟨_,l,h2,_⟩:=hx
 exact (htr.tr id τ xs hid).rd h2 fun b hb => .inr (.inr ⟨id,τ,xs,hid,hb⟩)
theorem f1o(htr:c5s c G lk w)(hobj:∀ id o,lk id=some o→OR c G lk w id o){lk':Nat→Option a0d}(hlk:∀ id o,lk' id=some o→lk id=some o){τ:Ty}{v:AV}{x:Value}{y:τ.den}(h:a5q lk' τ v=some y)
  (hv:C1 c G lk w v x):Rd w (SX G lk) (τ.toD y) [x]:=by
 cases v with
 | imm u =>
  have e:=TV.as_some h
  subst e
  exact Rd.keep (fun _ h=>SX.of h) (fun _ _=>rfl) _ hv.2
 | nil =>
  cases τ with
  | slice t =>
   simp only[a5q,Option.some.injEq] at h
   subst h
   exact⟨none,0,by rw[show x=_ from hv];rfl,by simp,by simp[maxLen],by simp, .inl rfl⟩
  | _=>cases h
 | row id =>
  simp only[a5q] at h
  split at h
  ·rename_i e τ' xs hl
   have e1:=TV.as_some h
   cases e1
   have hl':=hlk _ _ hl
   rw[hv.1]
   exact e6p (hobj _ _ hl') hl'
  ·cases h
 | tree id =>
  simp only[a5q] at h
  split at h
  ·rename_i τ' xs hl
   have e1:=TV.as_some h
   cases e1
   exact f0e htr (hlk _ _ hl) hv
  ·cases h
 | _=>cases h
theorem f0m{lk':Nat→Option a0d}(hno:∀ id e τ xs,lk' id≠some (.row e τ xs))(hnt:∀ id τ xs,lk' id≠some (.tree τ xs)){τ:Ty}{v:AV}{x:Value}{y:τ.den}(h:a5q lk' τ v=some y)(hv:C1 c G lk w v x):Rd w G.S (τ.toD y) [x]:=by
 cases v with
 | imm u =>
  have e:=TV.as_some h
  subst e
  exact hv.2
 | nil =>
  cases τ with
  | slice t =>
   simp only[a5q,Option.some.injEq] at h
   subst h
   exact⟨none,0,by rw[show x=_ from hv];rfl,by simp,by simp[maxLen],by simp, .inl rfl⟩
  | _=>cases h
 | row id =>
  simp only[a5q] at h
  split at h
  ·rename_i hl
   exact absurd hl (hno _ _ _ _)
  ·cases h
 | tree id =>
  simp only[a5q] at h
  split at h
  ·rename_i hl
   exact absurd hl (hnt _ _ _)
  ·cases h
 | _=>cases h
theorem d5a{τ:Ty}{v:AV}{x:Value}{y:τ.den}(h:a5q (fun _=>none) τ v=some y)(hv:C1 c G lk w v x):Rd w G.S (τ.toD y) [x]:=by
 cases v with
 | imm u =>
  have e:=TV.as_some h
  subst e
  exact hv.2
 | nil =>
  cases τ with
  | slice t =>
   simp only[a5q,Option.some.injEq] at h
   subst h
   exact⟨none,0,by rw[show x=_ from hv];rfl,by simp,by simp[maxLen],by simp, .inl rfl⟩
  | _=>cases h
 | _=>cases h
theorem d4z{lk':Nat→Option a0d}{R:TV→Value→Prop}{Q:AV→Value→Prop}(hR:∀ t v x y,a5q lk' t v=some y→Q v x→R ⟨t,y⟩ x):∀ {cs:List AV} {ts:List Ty} {l:List TV} {vs:List Value},d4y lk' cs ts=some l→a0g Q cs vs→a0g R l vs
 | [],[],l,vs,h,k=>by
  simp only[d4y,Option.some.injEq] at h
  subst h
  match vs,k with
  | [],_=>trivial
 | v::cs,t::ts,l,vs,h,k=>by
  simp only[d4y] at h
  split at h
  ·rename_i x hx
   split at h
   ·rename_i r hr
    simp only[Option.some.injEq] at h
    subst h
    match vs,k with
    | u::us,k=>exact⟨hR _ _ _ _ hx k.1,d4z hR hr k.2⟩
   ·cases h
  ·cases h
 | [],_::_,_,_,h,_=>by cases h
 | _::_,[],_,_,h,_=>by cases h
theorem c8n{S:Nat→Prop}{lk':Nat→Option a0d}(h1:∀ τ v x (y:τ.den),a5q lk' τ v=some y→C1 c G lk w v x→Rd w S (τ.toD y) [x])(hS:∀ b,G.S b→S b)
  {τ:Ty} {v:AV} {x:Value} {y:τ.den} (h:asT lk' τ v=some y) (hv:VR c G lk w v x):RdV w S ⟨τ,y⟩ x:=by
 have hcell:∀ (hagg:∀ cs,v ≠ .agg cs),a5q lk' τ v=some y→RdV w S ⟨τ,y⟩ x:=by
  intro hagg ha
  cases v with
  | imm u =>
   have e:=TV.as_some ha
   subst e
   exact RdV.mono (G:=G) (G':=⟨S,G.η,G.φ⟩) hv hS (fun _ _=>rfl)
  | nil =>
   have:=h1 τ .nil x y ha hv
   cases τ with
   | st s=>cases ha
   | _=>exact this
  | row i =>
   have:=h1 τ (.row i) x y ha hv
   cases τ with
   | st s =>
    simp only[a5q] at ha
    split at ha
    ·have e:=TV.as_some ha
     cases e
    ·cases ha
   | _=>exact this
  | tree i =>
   have:=h1 τ (.tree i) x y ha hv
   cases τ with
   | st s =>
    simp only[a5q] at ha
    split at ha
    ·have e:=TV.as_some ha
     cases e
    ·cases ha
   | _=>exact this
  | agg cs=>exact absurd rfl (hagg cs)
  | _=>cases ha
 cases v with
 | agg cs =>
  cases τ with
  | st s =>
   simp only[asT] at h
   split at h
   ·rename_i l hl
    obtain⟨vs,rfl,hvs⟩:=hv
    refine⟨vs,rfl,?_⟩
    rw[a0h.toD_cells,a0h.ofCells_some h]
    exact a1r.all2.2 (d4z (fun t u z k hk hz=>h1 t u z k hk hz) hl hvs)
   ·cases h
  | _=>cases h
 | _=>exact hcell (by intro cs;simp) h
theorem b9r(htr:c5s c G lk w)(hobj:∀ id o,lk id=some o→OR c G lk w id o){lk':Nat→Option a0d}(hlk:∀ id o,lk' id=some o→lk id=some o){τ:Ty}{v:AV}{x:Value}{y:τ.den}(h:asT lk' τ v=some y)
  (hv:VR c G lk w v x):RdV w (SX G lk) ⟨τ,y⟩ x :=
 c8n (fun τ v x y h hv=>f1o htr hobj hlk h hv) (fun _ h=>SX.of h) h hv
theorem b9i{lk':Nat→Option a0d}(hno:∀ id e τ xs,lk' id≠some (.row e τ xs))(hnt:∀ id τ xs,lk' id≠some (.tree τ xs)){τ:Ty}{v:AV}{x:Value}{y:τ.den}(h:asT lk' τ v=some y)(hv:VR c G lk w v x):RdV w G.S ⟨τ,y⟩ x :=
 c8n (fun τ v x y h hv=>f0m hno hnt h hv) (fun _ h=>h) h hv
theorem d1g{τ:Ty}{v:AV}{x:Value}{y:τ.den}(h:asT (fun _=>none) τ v=some y)(hv:VR c G lk w v x):RdV w G.S ⟨τ,y⟩ x :=
 c8n (fun τ v x y h hv=>d5a h hv) (fun _ h=>h) h hv
theorem c0a{τ:Ty}{v:AV}{x:Value}{new:List AV}(h:a7l τ v=some new)(hv:VR c G lk w v x) :
  a0g (C1 c G lk w) new x.cells.toList∧(∀ u∈x.cells.toList,u.oneCell'=true)∧new.length=τ.size:=by
 have one:v.cell=true→new=[v]→τ.size=1→a0g (C1 c G lk w) new x.cells.toList∧(∀ u∈x.cells.toList,u.oneCell'=true)∧new.length=τ.size:=by
  intro hc hn hs
  subst hn
  have h1:=hv.toC1 hc
  obtain⟨h2,h3⟩:=h1.leaf hc
  rw[h3]
  exact⟨⟨h1,trivial⟩,by simpa using h2,by simp[hs]⟩
 cases τ with
 | st s =>
  simp only[a7l] at h
  split at h
  ·rename_i u
   split at h
   ·rename_i y hy
    simp only[Option.some.injEq] at h
    subst h
    have e:=TV.as_some hy
    subst e
    obtain⟨cs,rfl,hr⟩:=hv
    rw[a0h.toD_cells] at hr
    have ha:=a1r.all2.1 hr
    refine⟨?_,?_,by simp[Ty.size,a0h.cells_length]⟩
    ·simp only[Value.cells]
     refine a0g.map_left _ (ha.imp fun u z hu hz=>⟨?_,hz⟩)
     have:=a0h.leaf_cells s y u hu
     obtain⟨τ',z'⟩:=u
     cases τ' with
     | st s'=>simp[TV.toD,Ty.toD,a0h.toD_cells,D.leaf] at this
     | _=>rfl
    ·simp only[Value.cells]
     intro u hu
     obtain⟨i,hi,hiu⟩:=List.getElem_of_mem hu
     have hlen:=ha.length
     obtain⟨b,hb,hr'⟩:=ha.at_ i (s.cells y)[i] (List.getElem?_eq_getElem (by omega))
     have hb':b=u:=by
      have:cs[i]?=some u:=by rw[List.getElem?_eq_getElem hi,hiu]
      rw[this] at hb;exact (Option.some.inj hb).symm
     subst hb'
     obtain⟨z,h1,h2⟩:=Rd.leafV (a0h.leaf_cells s y _ (List.getElem_mem _)) hr'
     simp only[List.cons.injEq,and_true] at h1
     subst h1
     exact b8w h2
   ·cases h
  ·rename_i cs
   split at h
   ·rename_i hb
    simp only[Option.some.injEq] at h
    subst h
    simp only[Bool.and_eq_true] at hb
    obtain⟨l,rfl,hl⟩:=hv
    refine⟨by simpa [Value.cells] using hl,?_,by simpa [Ty.size] using Nat.eq_of_beq_eq_true hb.1⟩
    simp only[Value.cells]
    intro u hu
    obtain⟨i,hi,hiu⟩:=List.getElem_of_mem hu
    have hlen:=hl.length
    obtain⟨b,hb',hr'⟩:=hl.at_ i cs[i] (List.getElem?_eq_getElem (by omega))
    have hbu:b=u:=by
     have:l[i]?=some u:=by rw[List.getElem?_eq_getElem hi,hiu]
     rw[this] at hb';exact (Option.some.inj hb').symm
    subst hbu
    exact (hr'.leaf (List.all_eq_true.1 hb.2 _ (List.getElem_mem _))).1
   ·cases h
  ·cases h
 | int k =>
  simp only[a7l] at h
  split at h
  ·rename_i hc;simp only[Option.some.injEq] at h;exact one hc h.symm rfl
  ·cases h
 | bool =>
  simp only[a7l] at h
  split at h
  ·rename_i hc;simp only[Option.some.injEq] at h;exact one hc h.symm rfl
  ·cases h
 | str =>
  simp only[a7l] at h
  split at h
  ·rename_i hc;simp only[Option.some.injEq] at h;exact one hc h.symm rfl
  ·cases h
 | ptr =>
  simp only[a7l] at h
  split at h
  ·rename_i hc;simp only[Option.some.injEq] at h;exact one hc h.symm rfl
  ·cases h
 | mv t =>
  simp only[a7l] at h
  split at h
  ·rename_i hc;simp only[Option.some.injEq] at h;exact one hc h.symm rfl
  ·cases h
 | slice t =>
  simp only[a7l] at h
  split at h
  ·rename_i hc;simp only[Option.some.injEq] at h;exact one hc h.symm rfl
  ·cases h
theorem c7m{cs:List AV}{l:List Value}(hl:a0g (C1 c G lk w) cs l){off:Nat}{τ:Ty}{u:AV}(h:c6g cs off τ=some u) :
  VR c G lk w u (mkV τ ((l.drop off).take τ.size))∧((l.drop off).take τ.size).length=τ.size∧off+τ.size≤l.length:=by
 have hlen:=hl.length
 have one:τ.size=1→(∀ s,τ ≠ .st s)→cs[off]?=some u→VR c G lk w u (mkV τ ((l.drop off).take τ.size))∧((l.drop off).take τ.size).length=τ.size∧off+τ.size≤l.length:=by
  intro hs hst hu
  obtain⟨x,hx,hr⟩:=hl.at_ off u hu
  have hlt:off<l.length:=(List.getElem?_eq_some_iff.1 hx).1
  have he:(l.drop off).take 1=[x]:=by
   rw[List.drop_eq_getElem_cons hlt]
   have:=(List.getElem?_eq_some_iff.1 hx).2
   simp[this]
  rw[hs,he]
  refine⟨?_,rfl,by omega⟩
  have:mkV τ [x]=x:=by cases τ<;>first|rfl|exact absurd rfl (hst _)
  rw[this]
  exact hr.toVR
 cases τ with
 | st s =>
  simp only[c6g] at h
  split at h
  ·rename_i hb
   simp only[Option.some.injEq] at h
   subst h
   have hle:=Nat.le_of_ble_eq_true hb
   refine⟨⟨_,rfl,(hl.drop off).take s.size⟩,?_,?_⟩
   ·simp only[Ty.size,List.length_take,List.length_drop];omega
   ·simp only[Ty.size];omega
  ·cases h
 | int k=>exact one rfl (by intro s;simp) h
 | bool=>exact one rfl (by intro s;simp) h
 | str=>exact one rfl (by intro s;simp) h
 | slice t=>exact one rfl (by intro s;simp) h
 | mv t=>exact one rfl (by intro s;simp) h
 | ptr=>exact one rfl (by intro s;simp) h
theorem a1x.part{bk o:Nat}{l:List Value}(h:a1x w bk o l)(off n:Nat):a1x w bk (o+off) ((l.drop off).take n):=fun j v hj=>by
 rw[List.getElem?_take] at hj
 split at hj
 ·rw[List.getElem?_drop] at hj
  have:=h (off+j) v hj
  rwa [←Nat.add_assoc] at this
 ·cases hj
theorem a1x.of_heap{bk:Nat}{l:List Value}{t:TypeId}{fr:Nat×Nat}(h:w.heap[bk]?=some (.cells l.toArray t fr)):a1x w bk 0 l:=fun j v hj=>by
 simp only[World.cell?,h,Nat.zero_add,Option.isSome_none]
 simpa using hj
theorem e6j{S:Nat→Prop}{v u:TV}{off:Nat}{τ:Ty}(h:v.part off τ=some u){l:List Value}(hl:Rd w S v.toD l) :
  u.τ=τ∧((l.drop off).take τ.size).length=τ.size∧Rd w S u.toD ((l.drop off).take τ.size):=by
 have hlen:=Rd.length _ hl
 rw[show v.toD=v.τ.toD v.x from rfl,Ty.size_toD] at hlen
 unfold TV.part at h
 split at h
 ·rename_i hb
  simp only[Bool.and_eq_true] at hb
  simp only[Option.some.injEq] at h
  subst h
  have h0:=Nat.eq_of_beq_eq_true hb.1
  have h1:=of_decide_eq_true hb.2
  subst h0
  subst h1
  rw[List.drop_zero,List.take_of_length_le (by omega)]
  exact⟨rfl,hlen,hl⟩
 ·split at h
  ·rename_i z hz
   split at h
   ·rename_i hb
    simp only[Option.some.injEq] at h
    subst h
    have h1:=of_decide_eq_true hb
    subst h1
    obtain⟨τ',y⟩:=v
    have key:∀ (x:Value),l[off]?=some x→z.τ.agg=false→Rd w S z.toD [x]→z.τ=z.τ∧((l.drop off).take z.τ.size).length=z.τ.size∧Rd w S z.toD ((l.drop off).take z.τ.size):=by
     intro x hx ha hr
     have hlt:off<l.length:=(List.getElem?_eq_some_iff.1 hx).1
     have he:(l.drop off).take 1=[x]:=by
      rw[List.drop_eq_getElem_cons hlt]
      have:=(List.getElem?_eq_some_iff.1 hx).2
      simp[this]
     rw[Ty.size_of_not_agg ha,he]
     exact⟨rfl,rfl,hr⟩
    cases τ' with
    | st s =>
     simp only[TV.cells] at hz
     rw[show TV.toD ⟨.st s,y⟩=s.toD y from rfl,a0h.toD_cells] at hl
     obtain⟨x,hx,hr⟩:=(a1r.all2.1 hl).at_ off z hz
     refine key x hx ?_ hr
     have:=a0h.leaf_cells s y z (List.mem_of_getElem? hz)
     obtain⟨τ'',z'⟩:=z
     cases τ'' with
     | st s'=>simp[TV.toD,Ty.toD,a0h.toD_cells,D.leaf] at this
     | _=>rfl
    | _ =>
     simp only[TV.cells] at hz
     cases off with
     | zero =>
      simp at hz
      subst hz
      obtain⟨x,rfl,_⟩:=Rd.leafV (a8d rfl) hl
      exact key x rfl rfl hl
     | succ k=>simp at hz
   ·cases h
  ·cases h
theorem e8h{id:Nat}{e:TypeId}{τ:Ty}{xs:List τ.den}(ho:OR c G lk w id (.row e τ xs)){b n cap:Nat}(hη:G.η id = .slice (some ⟨b,0,none⟩) n cap){i:Nat}(hi:i<xs.length) :
  ∃ cs,cs.length=τ.size∧a1x w b (i * τ.size) cs∧Rd w G.S (τ.toD (xs.getD i τ.zero)) cs:=by
 obtain⟨l,h1,h2,h3⟩:=ho
 have hsz:∀ d∈xs.map τ.toD,d.size=τ.size:=by
  intro d hd
  obtain⟨y,_,rfl⟩:=List.mem_map.1 hd
  exact Ty.size_toD τ y
 have hll:=RdL.length _ h2 hsz
 have hat:=RdL.at_ _ h2 hsz i (τ.toD (xs.getD i τ.zero)) (by simp[List.getD,hi])
 have hlen:=Rd.length _ hat
 rw[Ty.size_toD] at hlen
 refine⟨_,hlen,?_,hat⟩
 have hc:a1x w b 0 l:=fun j v hj=>by
  have:=h1.cells (g:=b) (by rw[hη];rfl) j v hj
  rwa [Addr.add_lit] at this
 have:=hc.part (i * τ.size) τ.size
 rwa [Nat.zero_add] at this
theorem b2r(hobj:∀ id o,lk id=some o→OR c G lk w id o){lk':Nat→Option a0d}(hlk:∀ id o,lk' id=some o→lk id=some o){τ:Ty}{v u:AV}{x:Value}(h:b2q lk' τ v=some u)(hv:VR c G lk w v x) :
  ∃ b o cs,x = .pointer (some ⟨b,o,none⟩)∧a1x w b o cs∧cs.length=τ.size∧VR c G lk w u (mkV τ cs):=by
 cases v with
 | pimm z =>
  simp only[b2q] at h
  split at h
  ·rename_i hb
   simp only[Option.some.injEq] at h
   subst h
   have e:=of_decide_eq_true hb
   subst e
   obtain⟨b,o,cs,h1,h2,h3,h4⟩:=hv
   refine⟨b,o,cs,h1,h3,?_,RdV.mk_ h4⟩
   rw[Rd.length _ h4]
   exact Ty.size_toD _ _
  ·cases h
 | ptr id off =>
  simp only[b2q] at h
  split at h
  ·rename_i cs hl
   obtain⟨b,h1,h2,h3⟩:=hv
   obtain⟨b',l,t,k1,k2,k3⟩:=hobj _ _ (hlk _ _ hl)
   rw[h1] at k1
   simp only[Value.pointer.injEq,Option.some.injEq,Addr.mk.injEq,and_true] at k1
   subst k1
   obtain⟨m1,m2,m3⟩:=c7m k3 h
   refine⟨b,off,_,h2,?_,m2,m1⟩
   have:=(a1x.of_heap k2).part off τ.size
   rwa [Nat.zero_add] at this
  ·cases h
 | rptr id i off =>
  simp only[b2q] at h
  split at h
  ·rename_i e τ' xs hl
   split at h
   ·rename_i z hz
    simp only[Option.some.injEq] at h
    subst h
    obtain⟨b,n,cap,e1,τ1,xs1,h1,h2,h3,h4⟩:=hv
    have hl':=hlk _ _ hl
    rw[hl'] at h2
    simp only[Option.some.injEq,a0d.row.injEq] at h2
    obtain⟨rfl,rfl,h2⟩:=h2
    have h2:=eq_of_heq h2
    subst h2
    obtain⟨cs,m1,m2,m3⟩:=e8h (hobj _ _ hl') h1 h3
    obtain⟨p1,p2,p3⟩:=e6j (v:=⟨τ',xs.getD i τ'.zero⟩) hz m3
    subst p1
    exact⟨b,_,_,h4,m2.part off _,p2,RdV.mk_ p3⟩
   ·cases h
  ·cases h
 | _=>cases h
end
end Go.Proofs.YtmdefiphdgcijaaDoor

/- Draw, Draw2. -/
import Derived.Test.YtmdefiphdgcijaaDoorVmStep
import Derived.Eval
set_option linter.unusedVariables false
set_option linter.unusedSimpArgs false
namespace Go.Proofs.YtmdefiphdgcijaaDoor
structure Ent where
 ran:Bool
 v:AV
 ob:Option a0d
def GV(want ran:Bool):AV→Prop
 | .imm ⟨.bool,b⟩=>ran=(b == want)
 | .undf=>ran=false
 | _=>False
def a4s(l:List Oper)(bits:Nat)(s:a0c)(o:Oper)(ran:Bool):Prop :=
 match o.guard with
 | none=>ran=true
 | some (g,want)=>∃ t v,a1f l g=some t∧Nat.testBit bits g=true∧s.eval (.tmp t)=v∧GV want ran v
def d4q(E:Env)(l:List Oper)(m bits:Nat)(s:a0c)(o:Oper)(e:Ent):Prop :=
 a4s l bits s o e.ran∧(e.ran=true→∃ vc:Vc,qop E (lkR l m bits s) (evR l m bits s) o=some (vc,e.v,e.ob)∧vc.ok)∧(e.ran=false→e.v = .undf∧e.ob=none)
def d1f(E:Env)(l:List Oper)(m:Nat)(anc:List Nat):Nat→List Oper→List Ent→a0c→a0c→Prop
 | _,[],[],s,s'=>s=s'
 | i,o::r,e::es,s,s'=>d4q E l m (anc.getD i 0) s o e∧d1f E l m anc (i+1) r es (s.layN o.dst e.v e.ob) s'
 | _,_,_,_,_=>False
theorem e1v{s:a0c}{t:Nat}{v:AV}(h:s.eval (.tmp t)=v)(hv:v ≠ .any):s.put (some t) v=s:=by
 have hlt:t<s.slots.length:=by
  rcases Nat.lt_or_ge t s.slots.length with hl|hl
  ·exact hl
  ·simp only[a0c.eval,List.getD_eq_getElem?_getD,List.getElem?_eq_none hl,Option.getD_none] at h
   exact absurd h.symm hv
 simp only[a0c.eval,List.getD_eq_getElem?_getD,List.getElem?_eq_getElem hlt,Option.getD_some] at h
 simp only[a0c.put]
 congr 1
 subst h
 exact List.set_getElem_self hlt
theorem d3y(s:a0c)(d:Option Nat):s.layN d .undf none=s.put d .undf:=by cases d<;>rfl
theorem b4q{E:Env}{l:List Oper}{m:Nat}{anc:List Nat}{Q:List (Nat×Bool)→a0c→Prop}:∀ {r:List Oper} {i:Nat} {kn:List (Nat×Bool)} {s:a0c},a8w E l m anc i r kn Q s →
  ∃ es kn' s',d1f E l m anc i r es s s'∧Q kn' s'
 | [],i,kn,s,h=>⟨[],kn,s,rfl,h⟩
 | o::r,i,kn,s,h=>by
  have run:∀ kn,a4s l (anc.getD i 0) s o true→d0r E l m (anc.getD i 0) o (a8w E l m anc (i+1) r kn Q) s→∃ es kn' s',d1f E l m anc i (o::r) es s s'∧Q kn' s':=by
   intro kn hg hr
   unfold d0r at hr
   split at hr
   ·split at hr
    ·rename_i vc v ob hq
     obtain⟨es,kn',s',h1,h2⟩:=b4q (Vc.and_ok hr).2
     exact⟨⟨true,v,ob⟩::es,kn',s',⟨⟨hg,fun _=>⟨vc,hq,(Vc.and_ok hr).1⟩,fun h=>(by cases h)⟩,h1⟩,h2⟩
    ·exact hr.elim
   ·exact hr.elim
  have skip:∀ kn,a4s l (anc.getD i 0) s o false→a8w E l m anc (i+1) r kn Q (s.put o.dst .undf)→∃ es kn' s',d1f E l m anc i (o::r) es s s'∧Q kn' s':=by
   intro kn hg hr
   obtain⟨es,kn',s',h1,h2⟩:=b4q hr
   exact⟨⟨false, .undf,none⟩::es,kn',s',⟨⟨hg,fun h=>(by cases h),fun _=>⟨rfl,rfl⟩⟩,by rw[d3y];exact h1⟩,h2⟩
  simp only[a8w] at h
  split at h
  ·rename_i hg
   exact run kn (by simp[a4s,hg]) h
  ·rename_i g want hg
   split at h
   ·rename_i t ht hbit
    split at h
    ·rename_i b hb
     split at h
     ·rename_i b' hev
      split at h
      ·rename_i hbb hbw
       have hbb:=eq_of_beq hbb
       subst hbb
       exact run kn (by simp only[a4s,hg];exact⟨t,_,ht,hbit,hev,hbw.symm⟩) h
      ·rename_i hbb hbw
       have hbb:=eq_of_beq hbb
       subst hbb
       exact skip kn (by simp only[a4s,hg];exact⟨t,_,ht,hbit,hev,hbw.symm⟩) h
      ·exact h.elim
     ·rename_i hev
      exact skip kn (by simp only[a4s,hg];exact⟨t,_,ht,hbit,hev,rfl⟩) h
     ·exact h.elim
    ·split at h
     ·rename_i b hev
      by_cases hbw:b=want
      ·have h':=h.1 hbw
       subst hbw
       rw[e1v hev (by simp)] at h'
       exact run _ (by simp only[a4s,hg];exact⟨t,_,ht,hbit,hev,by simp[GV]⟩) h'
      ·have hbn:b = !want:=by cases b<;>cases want<;>simp_all
       have h':=h.2 hbn
       rw[←hbn,e1v hev (by simp)] at h'
       exact skip _ (by simp only[a4s,hg];exact⟨t,_,ht,hbit,hev,by simpa [GV] using hbw⟩) h'
     ·rename_i hev
      exact skip kn (by simp only[a4s,hg];exact⟨t,_,ht,hbit,hev,rfl⟩) h
     ·exact h.elim
   ·exact h.elim
def stL(l:List Oper)(es:List Ent)(s0:a0c)(π:List Nat):a0c :=
 π.foldl (fun s k=>s.layN (a1f l k) (es.getD k ⟨false, .any,none⟩).v (es.getD k ⟨false, .any,none⟩).ob) s0
theorem d3z(s:a0c)(d:Option Nat)(v:AV)(o:Option a0d):(s.layN d v o).slots.length=s.slots.length:=by cases d<;>simp[a0c.layN]
theorem d1n(l:List Oper)(es:List Ent):∀ (π:List Nat) (s0:a0c),(stL l es s0 π).slots.length=s0.slots.length
 | [],_=>rfl
 | k::π,s0=>by
  show (stL l es (s0.layN _ _ _) π).slots.length=_
  rw[d1n l es π,d3z]
theorem d1w(s:a0c)(d:Option Nat)(v:AV)(o:Option a0d):(s.layN d v o).sl=a5y s.slots.length s.sl d v:=by
 cases d with
 | none=>funext i;simp[a0c.layN,a5y]
 | some d=>exact b1d s.slots d v _
theorem c2e(s:a0c)(d:Option Nat)(v:AV)(o:Option a0d)(j:Nat):(s.layN d v o).look j=if d=some j then (match o with
  | some o=>some o
  | none=>s.look j) else s.look j:=by
 cases d with
 | none=>simp[a0c.layN]
 | some d =>
  cases o with
  | none =>
   simp only[a0c.layN,a0c.look,ite_self]
  | some o =>
   show a0f ((d,o)::s.objs) j=_
   rw[a2j]
   by_cases h:j=d
   ·subst h;simp
   ·have:¬ (some d=some j):=by simp;exact fun e=>h e.symm
    rw[if_neg h,if_neg this];rfl
theorem a5w(l:List Oper)(es:List Ent)(t:Nat):∀ (π:List Nat) (s0:a0c),(∀ k∈π,a1f l k≠some t)→(stL l es s0 π).sl t=s0.sl t∧(stL l es s0 π).look t=s0.look t
 | [],_,_=>⟨rfl,rfl⟩
 | k::π,s0,h=>by
  obtain⟨h1,h2⟩:=a5w l es t π (s0.layN (a1f l k) (es.getD k ⟨false, .any,none⟩).v (es.getD k ⟨false, .any,none⟩).ob) (fun j hj=>h j (by simp[hj]))
  have hk:=h k (by simp)
  constructor
  ·show (stL l es (s0.layN _ _ _) π).sl t=_
   rw[h1,d1w,a5y,if_neg (fun hh=>hk hh.1)]
  ·show (stL l es (s0.layN _ _ _) π).look t=_
   rw[h2,c2e,if_neg hk]
theorem b7t(l:List Oper)(es:List Ent)(t k:Nat)(hk:a1f l k=some t):∀ (π:List Nat) (s0:a0c),k∈π→π.Nodup→(∀ j∈π,j≠k→a1f l j≠some t) →
  (stL l es s0 π).sl t=(if t<s0.slots.length then (es.getD k ⟨false, .any,none⟩).v else s0.sl t) ∧
  (stL l es s0 π).look t=(match (es.getD k ⟨false, .any,none⟩).ob with
   | some o=>some o
   | none=>s0.look t)
 | [],_,h,_,_=>by simp at h
 | j::π,s0,h,hn,ho=>by
  have hn':=List.nodup_cons.1 hn
  by_cases hj:j=k
  ·subst hj
   obtain⟨h1,h2⟩:=a5w l es t π (s0.layN (a1f l j) (es.getD j ⟨false, .any,none⟩).v (es.getD j ⟨false, .any,none⟩).ob) (fun i hi=>ho i (by simp[hi]) (fun e=>by subst e;exact hn'.1 hi))
   constructor
   ·show (stL l es (s0.layN _ _ _) π).sl t=_
    rw[h1,d1w,a5y]
    simp[hk]
   ·show (stL l es (s0.layN _ _ _) π).look t=_
    rw[h2,c2e,if_pos hk]
  ·have hjt:=ho j (by simp) hj
   obtain⟨h1,h2⟩:=b7t l es t k hk π (s0.layN (a1f l j) (es.getD j ⟨false, .any,none⟩).v (es.getD j ⟨false, .any,none⟩).ob) (by simpa [Ne.symm hj] using h) hn'.2 (fun i hi=>ho i (by simp[hi]))
   constructor
   ·show (stL l es (s0.layN _ _ _) π).sl t=_
    rw[h1,d3z,d1w,a5y,if_neg (c:=a1f l j=some t∧_) (fun hh=>hjt hh.1)]
   ·show (stL l es (s0.layN _ _ _) π).look t=_
    rw[h2]
    split
    ·rfl
    ·rw[c2e,if_neg hjt]
theorem d8a{l:List Oper}{es:List Ent}{m bits:Nat}{s0:a0c}{π π':List Nat}(hdst:∀ j k t,j<m→k<m→a1f l j=some t→a1f l k=some t→j=k)
  (hπ:∀ k∈π,k<m) (hπ':∀ k∈π',k<m) (hn:π.Nodup) (hn':π'.Nodup) (ha:∀ k,k<m→Nat.testBit bits k=true→k∈π∧k∈π') (t:Nat) (hh:a9b l m bits t=false) :
  (stL l es s0 π).sl t=(stL l es s0 π').sl t∧(stL l es s0 π).look t=(stL l es s0 π').look t:=by
 by_cases hex:∃ k,k<m∧a1f l k=some t
 ·obtain⟨k,hk,hd⟩:=hex
  have hb:Nat.testBit bits k=true:=by
   have:=hh
   unfold a9b at this
   rw[List.any_eq_false] at this
   have:=this k (by simpa using hk)
   simp only[hd] at this
   simp only[Nat.beq_refl] at this
   simpa using this
  obtain⟨h1,h2⟩:=ha k hk hb
  obtain⟨e1,e2⟩:=b7t l es t k hd π s0 h1 hn (fun j hj hne hjd=>hne (hdst j k t (hπ j hj) hk hjd hd))
  obtain⟨e3,e4⟩:=b7t l es t k hd π' s0 h2 hn' (fun j hj hne hjd=>hne (hdst j k t (hπ' j hj) hk hjd hd))
  exact⟨e1.trans e3.symm,e2.trans e4.symm⟩
 ·have hno:∀ k,k<m→a1f l k≠some t:=fun k hk hd=>hex ⟨k,hk,hd⟩
  obtain⟨e1,e2⟩:=a5w l es t π s0 (fun k hk=>hno k (hπ k hk))
  obtain⟨e3,e4⟩:=a5w l es t π' s0 (fun k hk=>hno k (hπ' k hk))
  exact⟨e1.trans e3.symm,e2.trans e4.symm⟩
theorem c7u(acc:List Nat)(k:Nat):∀ (es:List Edge) (s:Nat),Nat.testBit (es.foldl (b6g acc) s) k=true→Nat.testBit s k=true∨∃ e∈es,Region.binds .any e=true∧(k=e.on∨Nat.testBit (acc.getD e.on 0) k=true)
 | [],s,h => .inl h
 | e::es,s,h=>by
  simp only[List.foldl_cons] at h
  rcases c7u acc k es _ h with h|⟨e',he',h⟩
  ·unfold b6g at h
   split at h
   ·rename_i hb
    simp only[Nat.testBit_or,Bool.or_eq_true] at h
    rcases h with h|h|h
    ·exact .inl h
    ·refine .inr ⟨e,by simp,hb, .inl ?_⟩
     rw[Nat.one_shiftLeft,Nat.testBit_two_pow] at h
     exact (of_decide_eq_true h).symm
    ·exact .inr ⟨e,by simp,hb, .inr h⟩
   ·exact .inl h
  ·exact .inr ⟨e',by simp[he'],h⟩
theorem b8s:∀ (l:List Oper) (acc:List Nat),∃ r,a0u l acc=acc++r∧r.length=l.length ∧
  ∀ i o,l[i]?=some o→∀ k,Nat.testBit ((acc++r).getD (acc.length+i) 0) k=true→∃ e∈o.after.toList,Region.binds .any e=true∧(k=e.on∨(e.on<acc.length+i∧Nat.testBit ((acc++r).getD e.on 0) k=true))
 | [],acc=>⟨[],by simp[a0u],rfl,by simp⟩
 | o::l,acc=>by
  simp only[a0u]
  obtain⟨r,h1,h2,h3⟩:=b8s l (acc++[o.after.toList.foldl (b6g acc) 0])
  refine⟨_::r,by rw[h1,List.append_assoc];rfl,by simp[h2],fun i p hp k hk=>?_⟩
  cases i with
  | zero =>
   simp at hp
   subst hp
   have hk':Nat.testBit (o.after.toList.foldl (b6g acc) 0) k=true:=by
    simpa [List.getD_eq_getElem?_getD] using hk
   rcases c7u acc k _ 0 hk' with h|⟨e,he,hb,h⟩
   ·simp at h
   ·refine⟨e,he,hb,h.imp id fun h=>?_⟩
    have hlt:e.on<acc.length:=by
     rcases Nat.lt_or_ge e.on acc.length with hl|hl
     ·exact hl
     ·simp[List.getD_eq_getElem?_getD,List.getElem?_eq_none hl] at h
    refine⟨by omega,?_⟩
    rw[List.getD_eq_getElem?_getD,List.getElem?_append_left hlt,←List.getD_eq_getElem?_getD]
    exact h
  | succ i =>
   have:=h3 i p (by simpa using hp) k (by
    have e1:(acc++[o.after.toList.foldl (b6g acc) 0]).length+i=acc.length+(i+1):=by simp;omega
    rw[e1,List.append_assoc]
    exact hk)
   obtain⟨e,he,hb,h⟩:=this
   refine⟨e,he,hb,h.imp id fun ⟨h1,h2⟩=>⟨by simp at h1;omega,?_⟩⟩
   rw[List.append_assoc] at h2
   exact h2
theorem c1c:∀ (l:List Nat) (i m0:Nat),m0≤i→b0j l i m0≤i+l.length∧m0≤b0j l i m0∧∀ j b,l[j]?=some b→b0j l i m0≤i+j→b+1=2 ^ (i+j)
 | [],i,m0,h=>by simp[b0j];exact h
 | b::l,i,m0,h=>by
  simp only[b0j]
  split
  ·rename_i hb
   have hb:=Nat.eq_of_beq_eq_true hb
   obtain⟨h1,h2,h3⟩:=c1c l (i+1) m0 (by omega)
   refine⟨by simp;omega,h2,fun j b' hj hle=>?_⟩
   cases j with
   | zero=>simp at hj;subst hj;exact hb
   | succ j=>rw[show i+(j+1)=i+1+j by omega];exact h3 j b' (by simpa using hj) (by omega)
  ·obtain⟨h1,h2,h3⟩:=c1c l (i+1) (i+1) (Nat.le_refl _)
   refine⟨by simp;omega,by omega,fun j b' hj hle=>?_⟩
   cases j with
   | zero=>omega
   | succ j=>rw[show i+(j+1)=i+1+j by omega];exact h3 j b' (by simpa using hj) (by omega)
end Go.Proofs.YtmdefiphdgcijaaDoor

set_option linter.unusedVariables false
set_option linter.unusedSimpArgs false
namespace Go.Proofs.YtmdefiphdgcijaaDoor
theorem b6w(l:List Oper)(es:List Ent)(s0:a0c)(π:List Nat)(i:Nat):stL l es s0 (π++[i])=(stL l es s0 π).layN (a1f l i) (es.getD i ⟨false, .any,none⟩).v (es.getD i ⟨false, .any,none⟩).ob:=by
 simp[stL,List.foldl_append]
theorem e2b{E:Env}{l:List Oper}{m:Nat}{anc:List Nat}{s0:a0c}:∀ (r:List Oper) (i:Nat) (es es0:List Ent) (s s':a0c),d1f E l m anc i r es s s'→(∀ j o,r[j]?=some o→l[i+j]?=some o)→es0.length=i →
  s=stL l (es0++es) s0 (List.range i) →
  (∀ j o,r[j]?=some o→d4q E l m (anc.getD (i+j) 0) (stL l (es0++es) s0 (List.range (i+j))) o ((es0++es).getD (i+j) ⟨false, .any,none⟩))∧s'=stL l (es0++es) s0 (List.range (i+r.length))
 | [],i,[],es0,s,s',h,_,_,hs=>by
  have h:s=s':=h
  subst h
  exact⟨by simp,by simpa using hs⟩
 | o::r,i,e::es,es0,s,s',h,hl,h0,hs=>by
  obtain⟨h1,h2⟩:=h
  have ho:l[i]?=some o:=hl 0 o rfl
  have hget:(es0++e::es).getD i ⟨false, .any,none⟩=e:=by simp[List.getD_eq_getElem?_getD,←h0]
  have hst:s.layN o.dst e.v e.ob=stL l ((es0++[e])++es) s0 (List.range (i+1)):=by
   rw[List.append_assoc,List.range_succ,b6w,List.singleton_append,hget,←hs]
   simp[a1f,ho]
  have ih:=e2b r (i+1) es (es0++[e]) _ s' h2 (fun j p hj=>by
   have:=hl (j+1) p (by simpa using hj)
   rwa [show i+(j+1)=i+1+j by omega] at this) (by simp[h0]) hst
  rw[List.append_assoc,List.singleton_append] at ih
  refine⟨fun j p hj=>?_,by rw[ih.2];congr 2;simp;omega⟩
  cases j with
  | zero =>
   simp at hj
   subst hj
   rw[Nat.add_zero,hget,←hs]
   exact h1
  | succ j =>
   have:=ih.1 j p (by simpa using hj)
   rwa [show i+1+j=i+(j+1) by omega] at this
 | [],_,_::_,_,_,_,h,_,_,_=>h.elim
 | _::_,_,[],_,_,_,h,_,_,_=>h.elim
theorem b6q:∀ (m:Nat) (π:List Nat),π.Nodup→(∀ k∈π,k<m)→π.length≤m
 | 0,π,_,h=>by
  cases π with
  | nil=>simp
  | cons k r=>exact absurd (h k (by simp)) (by omega)
 | m+1,π,hn,h=>by
  by_cases hm:m∈π
  ·have h1:=b6q m (π.erase m) (hn.erase m) (fun k hk=>by
    have h2:=(hn.mem_erase_iff).1 hk
    have:=h k h2.2
    have:=h2.1
    omega)
   have h3:=List.length_erase_of_mem hm
   have:0<π.length:=List.length_pos_of_mem hm
   omega
  ·have:=b6q m π hn (fun k hk=>by
    have:=h k hk
    have:k≠m:=fun e=>by subst e;exact hm hk
    omega)
   omega
section
variable {c:Ctx} {G:Gh} {s:a0c} {a:Act} {w w':World}
theorem C1.refs_look{lk:Nat→Option a0d}{v:AV}{x:Value}(h:C1 c G lk w v x){d:Nat}(hr:v.refs d=true):lk d≠none:=by
 cases v with
 | ptr i o =>
  have:=Nat.eq_of_beq_eq_true (show Nat.beq i d=true from hr)
  subst this
  obtain⟨_,_,_,h3⟩:=h
  intro e
  rw[e] at h3
  cases h3
 | row i =>
  have:=Nat.eq_of_beq_eq_true (show Nat.beq i d=true from hr)
  subst this
  obtain⟨_,h3,_⟩:=h
  intro e
  rw[e] at h3
  cases h3
 | rptr i k o =>
  have:=Nat.eq_of_beq_eq_true (show Nat.beq i d=true from hr)
  subst this
  obtain⟨_,_,_,_,_,_,_,h3,_⟩:=h
  intro e
  rw[e] at h3
  cases h3
 | tree i =>
  have:=Nat.eq_of_beq_eq_true (show Nat.beq i d=true from hr)
  subst this
  intro e
  have h1:=h.1
  rw[e] at h1
  cases h1
 | sub i k o z =>
  have:=Nat.eq_of_beq_eq_true (show Nat.beq i d=true from hr)
  subst this
  intro e
  have h1:=h.1
  rw[e] at h1
  cases h1
 | tptr i k o z =>
  have:=Nat.eq_of_beq_eq_true (show Nat.beq i d=true from hr)
  subst this
  intro e
  have h1:=h.1
  rw[e] at h1
  cases h1
 | mp i =>
  have:=Nat.eq_of_beq_eq_true (show Nat.beq i d=true from hr)
  subst this
  intro e
  have h1:=h.2.1
  rw[e] at h1
  cases h1
 | agg cs=>exact h.elim
 | tup cs=>exact h.elim
 | clo f cs=>exact h.elim
 | _=>cases hr
theorem b1b{d:Nat}:∀ {cs:List AV},AV.refsL d cs=true→∃ v∈cs,v.refs d=true
 | v::r,h=>by
  simp only[AV.refsL] at h
  split at h
  ·rename_i hv;exact⟨v,by simp,hv⟩
  ·obtain⟨u,hu,hr⟩:=b1b h
   exact⟨u,by simp[hu],hr⟩
theorem a0g.mem_left{α β:Type}{R:α→β→Prop}:∀ {as:List α} {bs:List β},a0g R as bs→∀ x∈as,∃ y,R x y
 | _::_,b::_,h,x,hx=>by
  rcases List.mem_cons.1 hx with rfl|hx
  ·exact⟨b,h.1⟩
  ·exact a0g.mem_left h.2 x hx
theorem VR.refs_look{lk:Nat→Option a0d}{v:AV}{x:Value}(h:VR c G lk w v x){d:Nat}(hr:v.refs d=true):lk d≠none:=by
 cases v with
 | imm u=>cases hr
 | agg cs =>
  obtain⟨l,_,hl⟩:=h
  obtain⟨u,hu,hur⟩:=b1b (show AV.refsL d cs=true from hr)
  obtain⟨y,hy⟩:=hl.mem_left u hu
  exact hy.refs_look hur
 | tup vs =>
  obtain⟨l,_,hl⟩:=h
  obtain⟨u,hu,hur⟩:=b1b (show AV.refsL d vs=true from hr)
  obtain⟨y,hy⟩:=hl.mem_left u hu
  cases u with
  | tree i=>exact C1.refs_look (c:=c) (G:=G) (w:=w) (v := .tree i) hy hur
  | agg cs =>
   obtain⟨l,_,hl⟩:=hy
   obtain⟨u,hu,hur⟩:=b1b (show AV.refsL d cs=true from hur)
   obtain⟨y,hy⟩:=hl.mem_left u hu
   exact hy.refs_look hur
  | _=>first|(cases hur;done)|exact hy.elim
 | clo f vs =>
  obtain⟨l,_,hl⟩:=h
  obtain⟨u,hu,hur⟩:=b1b (show AV.refsL d vs=true from hr)
  obtain⟨y,hy⟩:=hl.mem_left u hu
  rcases hy.inv with ⟨v,rfl,_⟩|⟨cs,l,rfl,_,hl⟩|h1
  ·cases hur
  ·obtain⟨u,hu,hur⟩:=b1b (show AV.refsL d cs=true from hur)
   obtain⟨y,hy⟩:=hl.mem_left u hu
   exact hy.refs_look hur
  ·exact h1.refs_look hur
 | ptr i o=>exact C1.refs_look (c:=c) (G:=G) (w:=w) (v := .ptr i o) h hr
 | row i=>exact C1.refs_look (c:=c) (G:=G) (w:=w) (v := .row i) h hr
 | rptr i k o=>exact C1.refs_look (c:=c) (G:=G) (w:=w) (v := .rptr i k o) h hr
 | tree i=>exact C1.refs_look (c:=c) (G:=G) (w:=w) (v := .tree i) h hr
 | sub i k o z=>exact C1.refs_look (c:=c) (G:=G) (w:=w) (v := .sub i k o z) h hr
 | tptr i k o z=>exact C1.refs_look (c:=c) (G:=G) (w:=w) (v := .tptr i k o z) h hr
 | mp i=>exact C1.refs_look (c:=c) (G:=G) (w:=w) (v := .mp i) h hr
 | _=>cases hr
theorem Inv.noref(h:Inv c G s a w){d:Nat}(hd:s.look d=none):(∀ i,(s.sl i).refs d=false)∧∀ i o,s.look i=some o→o.refs d=false:=by
 refine⟨fun i=>?_,fun i o ho=>?_⟩
 ·cases hr:(s.sl i).refs d with
  | false=>rfl
  | true=>exact absurd hd ((h.slots i).refs_look hr)
 ·cases o with
  | row e τ xs=>rfl
  | tree τ xs=>rfl
  | map m=>rfl
  | box cs =>
   cases hr:a0d.refs d (.box cs) with
   | false=>rfl
   | true =>
    obtain⟨b,l,t,_,_,k3⟩:=h.objs i _ ho
    obtain⟨u,hu,hur⟩:=b1b (show AV.refsL d cs=true from hr)
    obtain⟨y,hy⟩:=k3.mem_left u hu
    exact absurd hd (hy.refs_look hur)
theorem d6c(h0:Inv c G s a w){d:Option Nat}{v:AV}{ob:Option a0d}{a':Act}(hd4:b3a d=true)(hfree:∀ i o,d=some i→ob=some o→s.look i=none)(h:b4k c G s.sl s.slots.length s.look d a w v ob a' w') :
  ∃ G',Inv c G' (s.layN d v ob) a' w':=by
 obtain⟨x,S',rfl,hI,hx⟩:=h
 cases ob with
 | none =>
  refine⟨⟨S',G.η,G.φ⟩,?_⟩
  have:s.layN d v none=s.put d v:=by cases d<;>rfl
  rw[this]
  exact Inv.put (s:=s) hI hx
 | some o =>
  obtain⟨hL,hN,hb⟩:=hx
  have hd:∃ i,d=some i:=by cases o<;>first|exact⟨_,hL.choose_spec.1⟩|exact hL.elim
  obtain⟨i,rfl⟩:=hd
  have hi:=hfree i o rfl rfl
  have hI':Inv c ⟨S',G.η,G.φ⟩ s a w':=hI
  obtain⟨hn1,hn2⟩:=hI'.noref hi
  have hor:o.refs i=false:=by
   cases o with
   | row e τ xs=>rfl
   | tree τ xs=>rfl
   | map m=>rfl
   | box cs =>
    cases hr:a0d.refs i (.box cs) with
    | false=>rfl
    | true =>
     obtain⟨b,l,t,_,_,k3⟩:=hN
     obtain⟨u,hu,hur⟩:=b1b (show AV.refsL i cs=true from hr)
     obtain⟨y,hy⟩:=k3.mem_left u hu
     exact absurd hi (hy.refs_look hur)
  have hnew:OR c ⟨S',fun j=>if j=i then x else G.η j,G.φ⟩ (fun j=>if j=i then some o else s.look j) w' i o:=by
   cases o with
   | box cs =>
    obtain⟨b,l,t,k1,k2,k3⟩:=hN
    refine⟨b,l,t,by simp[k1],k2,k3.imp fun u y hu hy=>hy.mono (fun j hj=>?_) (fun _ h=>h) (fun _ _=>rfl)⟩
    have hne:j≠i:=fun e=>by
     subst e
     have:=a9o hu hj
     rw[show AV.refsL j cs=a0d.refs j (.box cs) from rfl,hor] at this
     cases this
    simp only[if_neg hne]
    exact⟨a2p.refl _,trivial⟩
   | row e τ xs =>
    obtain⟨l,k1,k2,k3⟩:=hN
    exact⟨l,by simpa using k1,k2,k3⟩
   | tree τ xs=>exact hN.elim
   | map m =>
    obtain⟨b,es,clock,k1,k2,k3⟩:=hN
    exact⟨b,es,clock,by simp[k1],k2,k3⟩
  have hot:a1i (some o)=false:=by
   cases o with
   | tree τ xs=>exact hN.elim
   | _=>rfl
  have h4:=a0l.newObj hI' i o x hi hn1 hn2 hor hnew hot (.inr (Nat.le_of_ble_eq_true hd4)) (fun b hbx=>by
   obtain⟨q1,q2,q3⟩:=hb b hbx
   have hle:=h0.keep.size
   refine⟨by omega,q3,q2,fun j p hjp hjb=>?_,fun j τ xs hj hjb=>?_⟩
   ·have:=(h0.place j p b hjp hjb).2.2
    omega
   ·have:=(h0.trees.pl j τ xs b hj hjb).2.2.1
    omega)
  refine⟨⟨S',fun j=>if j=i then x else G.η j,G.φ⟩,?_⟩
  unfold Inv
  have hlk:(s.layN (some i) v (some o)).look=fun j=>if j=i then some o else s.look j:=by
   funext j
   rw[c2e]
   by_cases hj:j=i
   ·subst hj;simp
   ·have:¬ (some i=some j):=by simp;exact fun e=>hj e.symm
    rw[if_neg this,if_neg hj]
  rw[d1w,hlk,d3z]
  refine a0l.put h4 ?_
  cases o with
  | box cs =>
   obtain⟨j,hj,rfl⟩:=hL
   simp only[Option.some.injEq] at hj
   subst hj
   obtain⟨b,l,t,k1,k2,k3⟩:=hN
   exact⟨b,by simp[k1],k1,by simp[a5k]⟩
  | row e τ xs =>
   obtain⟨j,hj,rfl⟩:=hL
   simp only[Option.some.injEq] at hj
   subst hj
   obtain⟨l,k1,k2,k3⟩:=hN
   refine⟨by simp,by simp[b6z],?_⟩
   rcases k1.2 with ⟨rfl,_⟩|⟨g,cap,cur,rfl,_⟩
   ·exact⟨_,_,_,rfl⟩
   ·exact⟨_,_,_,rfl⟩
  | tree τ xs=>exact hN.elim
  | map m =>
   obtain⟨j,hj,rfl⟩:=hL
   simp only[Option.some.injEq] at hj
   subst hj
   obtain⟨b,es,clock,k1,k2,k3⟩:=hN
   exact⟨by simp,by simp[c6m],b,k1⟩
theorem e5q(h:Inv c G s a w)(o:Oper):Inv c G (s.fresh o) a w:=by
 unfold a0c.fresh
 split
 ·rename_i d _ _
  obtain⟨h1,_,_⟩:=h.clear d
  have hlk:a0c.look { s.sweep d with objs:=a0v d (s.sweep d).objs }=fun i=>if i=d then none else (s.sweep d).look i:=by
   funext i
   exact a3f d _ i
  unfold Inv
  show a0l c G (s.sweep d).sl (s.sweep d).slots.length (a0c.look { s.sweep d with objs:=a0v d (s.sweep d).objs }) a w
  rw[hlk,show (s.sweep d).slots.length=s.slots.length from by simp[a0c.sweep]]
  exact h1
 ·exact h
theorem e4b(s:a0c)(o:Oper)(j:Nat):(s.look j=none→(s.fresh o).look j=none)∧(b6d o.op=true→o.dst=some j→(s.fresh o).look j=none):=by
 unfold a0c.fresh
 split
 ·rename_i d hc hd
  have hlk:a0c.look { s.sweep d with objs:=a0v d (s.sweep d).objs } j=if j=d then none else (s.look j).map (a0d.kill d):=by
   show a0f (a0v d (s.sweep d).objs) j=_
   rw[a3f]
   have:=congrFun (a2z s d) j
   show (if j=d then none else (s.sweep d).look j)=_
   rw[this]
  rw[hlk]
  refine⟨fun h=>by rw[h];simp,fun _ hj=>?_⟩
  rw[hd] at hj
  simp only[Option.some.injEq] at hj
  rw[if_pos hj.symm]
 ·rename_i hno
  exact⟨fun h=>h,fun hc hd=>(hno j hc hd).elim⟩
theorem c3b:∀ (l:List Oper) {s:a0c},Inv c G s a w→Inv c G (l.foldl a0c.fresh s) a w
 | [],_,h=>h
 | o::r,_,h=>c3b r (e5q h o)
theorem c0f:∀ (l:List Oper) (s:a0c) (j:Nat),(s.look j=none→(l.foldl a0c.fresh s).look j=none)∧(∀ o∈l,b6d o.op=true→o.dst=some j→(l.foldl a0c.fresh s).look j=none)
 | [],s,j=>⟨fun h=>h,by simp⟩
 | o::r,s,j=>by
  obtain⟨h1,h2⟩:=c0f r (s.fresh o) j
  obtain⟨h3,h4⟩:=e4b s o j
  refine⟨fun h=>h1 (h3 h),fun p hp hc hd=>?_⟩
  rcases List.mem_cons.1 hp with rfl|hp
  ·exact h1 (h4 hc hd)
  ·exact h2 p hp hc hd
theorem d8j{E:Env}{lk:Nat→Option a0d}{f:FuncId}{Ts:List TypeId}{vs:List AV}{vc:Vc}{v:AV}{ob:Option a0d}(h:c3w E lk f Ts vs=some (vc,v,ob)):ob=none:=by
 unfold c3w at h
 repeat' split at h
 all_goals first
  | (simp only[Option.some.injEq,Prod.mk.injEq] at h;exact h.2.2.symm)
  | cases h
theorem d5h{E:Env}{lk:Nat→Option a0d}{g:AV}{Ts:List TypeId}{vs:List AV}{vc:Vc}{v:AV}{ob:Option a0d}(h:b9j E lk g Ts vs=some (vc,v,ob)):ob=none:=by
 unfold b9j at h
 split at h
 ·rename_i r hr
  repeat' split at hr
  all_goals first
   | (simp only[Option.some.injEq] at hr h;subst hr;simp only[Prod.mk.injEq] at h;exact h.2.2.symm)
   | cases hr
 ·repeat' split at h
  all_goals first
   | (simp only[Option.some.injEq,Prod.mk.injEq] at h;exact h.2.2.symm)
   | cases h
theorem d3a{E:Env}{lk:Nat→Option a0d}{ev:Operand→AV}{o:Oper}{vc:Vc}{v:AV}{ob:a0d}(h:qop E lk ev o=some (vc,v,some ob)):b6d o.op=true:=by
 unfold qop at h
 split at h
 case h_4 T hop=>rw[hop];rfl
 case h_5 T x hop=>rw[hop];rfl
 case h_7 T n ps hop=>rw[hop];rfl
 case h_21 T hop=>rw[hop];rfl
 case h_19 T x y hop=>rw[hop];rfl
 case h_20 cl hop =>
  split at h
  ·repeat' split at h
   all_goals first
    | (simp at h;done)
    | cases h
  ·rename_i hcal
   rw[hop]
   simp[b6d,hcal]
  ·exact absurd (d8j h) (by simp)
  ·split at h
   ·exact absurd (d8j h) (by simp)
   ·exact absurd (d5h h) (by simp)
   ·exact absurd (d5h h) (by simp)
   ·cases h
  ·cases h
 all_goals (repeat' split at h)
 all_goals first
  | (simp at h;done)
  | cases h
end
end Go.Proofs.YtmdefiphdgcijaaDoor

/- A call that is handed variables by their pointers. -/
import Derived.Test.YtmdefiphdgcijaaDoorVmBuild2
set_option linter.unusedVariables false
set_option linter.unusedSimpArgs false
namespace Go.Proofs.YtmdefiphdgcijaaDoor
def f1x:Value→Nat
 | .pointer (some a)=>a.block
 | _=>0
def bOf(G:Gh)(m:List (Nat×Nat))(k:Nat):Nat:=match a0f m k with
 | some id=>f1x (G.η id)
 | none=>0
def a6y(m m':List (Nat×Nat)):Prop:=∀ k id,a0f m k=some id→a0f m' k=some id
theorem a6y.refl(m:List (Nat×Nat)):a6y m m:=fun _ _ h=>h
theorem a6y.trans{a b c:List (Nat×Nat)}(h:a6y a b)(k:a6y b c):a6y a c:=fun i id q=>k i id (h i id q)
theorem b8x{α:Type}(k:Nat)(o:α)(l:List (Nat×α))(j:Nat):a0f ((k,o)::l) j=if j=k then some o else a0f l j:=by
 have e:a0f ((k,o)::l) j=match Nat.beq k j with
  | true=>some o
  | false=>a0f l j:=rfl
 rw[e]
 cases hb:Nat.beq k j with
 | true=>rw[if_pos (Nat.eq_of_beq_eq_true hb).symm]
 | false=>rw[if_neg (fun e=>by subst e;rw[Nat.beq_refl] at hb;cases hb)]
theorem d8m{m:List (Nat×Nat)}{k id:Nat}(h:a0f m k=none):a6y m ((k,id)::m):=fun i j q=>by
 rw[b8x]
 by_cases hi:i=k
 ·subst hi;rw[h] at q;cases q
 ·rw[if_neg hi];exact q
theorem d8v{m:List (Nat×Nat)}{k id:Nat}:a0f ((k,id)::m) k=some id:=by rw[b8x,if_pos rfl]
section
variable {c:Ctx} {G:Gh} {s:a0c} {a:Act} {w w':World}
theorem e9i{lk:Nat→Option a0d}{τ:Ty}{v:AV}{x:Value}{y:τ.den}(h:a5q (fun _=>none) τ v=some y)(hv:C1 c G lk w v x):Rd w G.S (τ.toD y) [x]:=d5a h hv
theorem b1k{sl:Nat→AV}{n:Nat}{lk:Nat→Option a0d}(h:a0l c G sl n lk a w):∀ {ks:List CK} {cs:List AV} {m m':List (Nat×Nat)} {ds:List TV} {ids:List Nat} {l:List Value},a1w lk ks cs m=some (ds,ids,m')→ids.Nodup→a0g (C1 c G lk w) cs l →
  a6y m m'∧∃ fp,(∀ mf,a6y m' mf→a8t w G.S (bOf G mf) ks ds l fp)∧fp.Nodup∧∀ b∈fp,InF G lk ids b
 | [],[],m,m',ds,ids,l,ht,_,hv=>by
  simp only[a1w,Option.some.injEq,Prod.mk.injEq] at ht
  obtain⟨rfl,rfl,rfl⟩:=ht
  match l,hv with
  | [],_=>exact⟨a6y.refl _,[],fun _ _=>rfl,List.nodup_nil,by simp⟩
 | .d τ::ks,v::cs,m,m',ds,ids,l,ht,hn,hv=>by
  simp only[a1w] at ht
  split at ht
  case h_2=>cases ht
  case h_1 y hy hagg =>
  split at ht
  case h_2=>cases ht
  case h_1 ds1 ids1 m1 hr =>
  simp only[Option.some.injEq,Prod.mk.injEq] at ht
  obtain⟨rfl,rfl,rfl⟩:=ht
  match l,hv with
  | x::l,hv =>
   obtain⟨e1,fp,e2,e3,e4⟩:=b1k h hr hn hv.2
   exact⟨e1,fp,fun mf hm=>⟨⟨rfl,hagg,e9i hy hv.1⟩,e2 mf hm⟩,e3,e4⟩
 | .o τ::ks,v::cs,m,m',ds,ids,l,ht,hn,hv=>by
  simp only[a1w] at ht
  split at ht
  case h_2=>cases ht
  case h_1 y i hy hagg =>
  split at ht
  case h_2=>cases ht
  case h_1 ds1 ids1 m1 hr =>
  simp only[Option.some.injEq,Prod.mk.injEq] at ht
  obtain⟨rfl,rfl,rfl⟩:=ht
  rw[List.nodup_append] at hn
  obtain⟨n1,n2,n3⟩:=hn
  match l,hv with
  | x::l,hv =>
   obtain⟨e1,fp,e2,e3,e4⟩:=b1k h hr n2 hv.2
   obtain⟨f1,o1,o2,o3⟩:=b9f h hy hv.1
   refine⟨e1,f1++fp,fun mf hm=>⟨f1,fp,rfl,⟨rfl,hagg,o1⟩,e2 mf hm⟩,a3i o2 e3 fun b hb hb'=>h.inf_apart (o3 b hb) (e4 b hb') fun x hx y hy=>n3 x hx y hy,fun b hb=>?_⟩
   rcases List.mem_append.1 hb with hb|hb
   ·exact (o3 b hb).mono fun k hk=>by simp[hk]
   ·exact (e4 b hb).mono fun k hk=>by simp[hk]
 | .p j::ks,v::cs,m,m',ds,ids,l,ht,hn,hv=>by
  simp only[a1w] at ht
  split at ht
  case h_2=>cases ht
  case h_1 id =>
  match l,hv with
  | x::l,hv =>
   have key:∀ m1,a1w lk ks cs m1=some (ds,ids,m')→a6y m m1→a0f m1 j=some id→a6y m m'∧∃ fp,(∀ mf,a6y m' mf→a8t w G.S (bOf G mf) (.p j::ks) ds (x::l) fp)∧fp.Nodup∧∀ b∈fp,InF G lk ids b:=fun m1 hr hx hj=>by
    obtain⟨e1,fp,e2,e3,e4⟩:=b1k h hr hn hv.2
    refine⟨hx.trans e1,fp,fun mf hm=>?_,e3,e4⟩
    have hv1:C1 c G lk w (.ptr id 0) x:=hv.1
    obtain⟨b,h1,h2,_⟩:=hv1
    have:bOf G mf j=b:=by
     simp only[bOf,hm j id (e1 j id hj),h1]
     rfl
    cases ds with
    | nil=>exact⟨by rw[this];exact h2,e2 mf hm⟩
    | cons d ds=>exact⟨by rw[this];exact h2,e2 mf hm⟩
   split at ht
   ·rename_i i hi
    split at ht
    ·rename_i hb
     have hb:=Nat.eq_of_beq_eq_true hb
     subst hb
     exact key m ht (a6y.refl _) hi
    ·cases ht
   ·rename_i hno
    exact key _ ht (d8m hno) d8v
 | [],_::_,_,_,_,_,_,ht,_,_=>by simp[a1w] at ht
 | .d _::_,[],_,_,_,_,_,ht,_,_=>by simp[a1w] at ht
 | .o _::_,[],_,_,_,_,_,ht,_,_=>by simp[a1w] at ht
 | .p _::_,[],_,_,_,_,_,ht,_,_=>by simp[a1w] at ht
def f1j(lk:Nat→Option a0d)(m:List (Nat×Nat))(k0 n:Nat):Prop:=∀ k,k0≤k→k<k0+n→∃ id cs,a0f m k=some id∧lk id=some (.box cs)
theorem c5l{sl:Nat→AV}{n:Nat}{lk:Nat→Option a0d}(h:a0l c G sl n lk a w):∀ {sh:List (List CK)} {k:Nat} {m m':List (Nat×Nat)} {dss:List (List TV)} {ids:List Nat},a9p lk sh k m=some (dss,ids,m')→ids.Nodup →
  a6y m m'∧f1j lk m' k sh.length∧∃ fp,(∀ mf,a6y m' mf→b0c w G.S (bOf G mf) k sh dss fp)∧fp.Nodup∧∀ b∈fp,InF G lk ids b
 | [],k,m,m',dss,ids,ht,_=>by
  simp only[a9p,Option.some.injEq,Prod.mk.injEq] at ht
  obtain⟨rfl,rfl,rfl⟩:=ht
  exact⟨a6y.refl _,fun j h1 h2=>by simp at h2;omega,[],fun _ _=>rfl,List.nodup_nil,by simp⟩
 | ks::sh,k,m,m',dss,ids,ht,hn=>by
  simp only[a9p] at ht
  split at ht
  case h_2=>cases ht
  case h_1 id hid =>
  split at ht
  case h_2=>cases ht
  case h_1 cs hcs =>
  split at ht
  case h_2=>cases ht
  case h_1 ds i m1 hr =>
  split at ht
  case h_2=>cases ht
  case h_1 dss1 ids1 m2 hr2 =>
  simp only[Option.some.injEq,Prod.mk.injEq] at ht
  obtain⟨rfl,rfl,rfl⟩:=ht
  rw[List.nodup_append] at hn
  obtain⟨n1,n2,n3⟩:=hn
  obtain⟨b,l,t,q1,q2,q3⟩:=h.objs id _ hcs
  obtain⟨e1,f1,e2,e3,e4⟩:=b1k h hr n1 q3
  obtain⟨g1,g0,f2,g2,g3,g4⟩:=c5l h hr2 n2
  refine⟨e1.trans g1,fun j h1 h2=>?_,f1++f2,fun mf hm=>⟨l,t,f1,f2,rfl,?_,e2 mf (g1.trans hm),g2 mf hm⟩,a3i e3 g3 fun b hb hb'=>h.inf_apart (e4 b hb) (g4 b hb') fun x hx y hy=>n3 x hx y hy,fun b hb=>?_⟩
  ·by_cases hj:j=k
   ·subst hj
    exact⟨id,cs,(e1.trans g1) j id hid,hcs⟩
   ·exact g0 j (by omega) (by simp at h2;omega)
  ·have:bOf G mf k=b:=by
    simp only[bOf,hm k id ((e1.trans g1) k id hid),q1]
    rfl
   rw[this]
   exact q2
  ·rcases List.mem_append.1 hb with hb|hb
   ·exact (e4 b hb).mono fun k hk=>by simp[hk]
   ·exact (g4 b hb).mono fun k hk=>by simp[hk]
theorem b7w:∀ {fl:List (Option Nat)} {vs:List AV} {m m':List (Nat×Nat)},a6z fl vs m=some m'→a6y m m'∧∀ (i k:Nat),fl[i]?=some (some k)→∃ id,vs[i]?=some (AV.ptr id 0)∧a0f m' k=some id
 | [],[],m,m',h=>by
  simp only[a6z,Option.some.injEq] at h
  subst h
  exact⟨a6y.refl _,fun i k q=>by simp at q⟩
 | none::fl,v::vs,m,m',h=>by
  obtain⟨h1,h2⟩:=b7w (fl:=fl) (vs:=vs) h
  refine⟨h1,fun i k q=>?_⟩
  cases i with
  | zero=>simp at q
  | succ i=>exact h2 i k (by simpa using q)
 | some k::fl,v::vs,m,m',h=>by
  simp only[a6z] at h
  split at h
  case h_2=>cases h
  case h_1 id =>
  have key:∀ m1,a6y m m1→a0f m1 k=some id→a6z fl vs m1=some m'→a6y m m'∧∀ (i k':Nat),(some k::fl)[i]?=some (some k')→∃ id',(AV.ptr id 0::vs)[i]?=some (AV.ptr id' 0)∧a0f m' k'=some id':=fun m1 e1 e2 e3=>by
   obtain⟨h1,h2⟩:=b7w e3
   refine⟨e1.trans h1,fun i k' q=>?_⟩
   cases i with
   | zero =>
    simp only[List.getElem?_cons_zero,Option.some.injEq] at q
    subst q
    exact⟨id,rfl,h1 k id e2⟩
   | succ i=>exact h2 i k' (by simpa using q)
  split at h
  ·rename_i i hi
   split at h
   ·rename_i hb
    have hb:=Nat.eq_of_beq_eq_true hb
    subst hb
    exact key m (a6y.refl _) hi h
   ·cases h
  ·rename_i hno
   exact key _ (d8m hno) d8v h
 | [],_::_,_,_,h=>by simp[a6z] at h
 | some _::_,[],_,_,h=>by simp[a6z] at h
 | none::_,[],_,_,h=>by simp[a6z] at h
theorem b1a{lk:Nat→Option a0d}{ids:List Nat}{id:Nat}{o:a0d}(h:b7c lk ids id=some o):lk id=some o∧id∉ids∧∃ cs,o = .box cs:=by
 unfold b7c at h
 split at h
 ·cases h
 ·rename_i hc
  split at h
  ·rename_i cs hcs
   simp only[Option.some.injEq] at h
   subst h
   exact⟨hcs,by simpa using hc,cs,rfl⟩
  ·cases h
theorem e8g(h1:Inv c G s a w){ids:List Nat}{X:Nat→Prop}(hXst:∀ b,X b→¬ St c G.S b)(hXobj:∀ id cs b,b7c s.look ids id=some (.box cs)→blk (G.η id)=some b→¬ X b)
  {τ:Ty} {v:AV} {x:Value} {y:τ.den} (hy:c1t (b7c s.look ids) τ v=some y) (hx:VR c G s.look w v x) (B:Nat→Nat):e7e w G.S X B (.ref ⟨τ,y⟩) x:=by
 have hd:=c6a (S:=G.S) h1 (lk':=b7c s.look ids) (fun id o ho=>(b1a ho).1) (fun τ v x y h hv=>b9i (fun id e τ xs q=>by obtain⟨_,_,cs,e⟩:=b1a q;cases e) (fun id τ xs q=>by obtain⟨_,_,cs,e⟩:=b1a q;cases e) h hv) hy hx
 obtain⟨b,o,cs,k1,k2,k3,k4⟩:=hd
 refine⟨b,o,cs,k1,k2,?_,k3,k4⟩
 unfold c1t at hy
 split at hy
 case h_2=>cases hy
 case h_1 u hu =>
 cases v with
 | pimm z =>
  obtain⟨b',o',cs',q1,q2,_⟩:=hx
  rw[k1] at q1
  simp only[Value.pointer.injEq,Option.some.injEq,Addr.mk.injEq] at q1
  obtain⟨rfl,_⟩:=q1
  exact fun hb=>hXst _ hb q2
 | ptr id off =>
  obtain⟨b',q1,q2,_⟩:=hx
  rw[k1] at q2
  simp only[Value.pointer.injEq,Option.some.injEq,Addr.mk.injEq] at q2
  obtain⟨rfl,_⟩:=q2
  simp only[b2q] at hu
  split at hu
  ·rename_i cs2 hcs
   exact hXobj id cs2 _ hcs (by rw[q1];rfl)
  ·cases hu
 | rptr id i off =>
  simp only[b2q] at hu
  split at hu
  ·rename_i hr
   obtain⟨_,_,cs,e⟩:=b1a hr
   cases e
  ·cases hu
 | _=>simp[b2q] at hu
theorem c7d(hE:a0r c.P c.E)(h1:Inv c G s a w){ids:List Nat}{mf:List (Nat×Nat)}{X:Nat→Prop}(hXst:∀ b,X b→¬ St c G.S b)(hXobj:∀ id cs b,b7c s.look ids id=some (.box cs)→blk (G.η id)=some b→¬ X b){lk0:Nat→Option a0d} :
  ∀ {fl:List (Option Nat)} {Ts:List TypeId} {vs vs0:List AV} {xs:List Value} {as:List Arg},b1j c.E (b7c s.look ids) fl Ts vs=some as→a0g (VR c G s.look w) vs xs→a0g (VR c G lk0 w) vs0 xs →
   (∀ (i k:Nat),fl[i]?=some (some k)→∃ id,vs0[i]?=some (AV.ptr id 0)∧a0f mf k=some id)→a0g (e7e w G.S X (bOf G mf)) as xs
 | [],[],[],vs0,xs,as,h,hv,_,_=>by
  simp only[b1j,Option.some.injEq] at h
  subst h
  match xs,hv with
  | [],_=>trivial
 | some k::fl,T::Ts,v::vs,vs0,xs,as,h,hv,hv0,hb=>by
  simp only[b1j] at h
  split at h
  case h_2=>cases h
  case h_1 r hr =>
  simp only[Option.some.injEq] at h
  subst h
  match xs,vs0,hv,hv0 with
  | x::xs,v0::vs0,hv,hv0 =>
   obtain⟨id,q1,q2⟩:=hb 0 k rfl
   simp only[List.getElem?_cons_zero,Option.some.injEq] at q1
   subst q1
   have hp:VR c G lk0 w (.ptr id 0) x:=hv0.1
   obtain⟨b,k1,k2,_⟩:=hp
   refine⟨?_,c7d hE h1 hXst hXobj hr hv.2 hv0.2 fun i k' q=>by simpa using hb (i+1) k' (by simpa using q)⟩
   show x = .pointer (some ⟨bOf G mf k,0,none⟩)
   simp only[bOf,q2,k1]
   exact k2
  | x::xs,[],_,hv0=>exact hv0.elim
 | none::fl,T::Ts,v::vs,vs0,xs,as,h,hv,hv0,hb=>by
  simp only[b1j] at h
  split at h
  case h_2=>cases h
  case h_1 z hz =>
  split at h
  case h_2=>cases h
  case h_1 r hnc hr =>
  simp only[Option.some.injEq] at h
  subst h
  match xs,vs0,hv,hv0 with
  | x::xs,v0::vs0,hv,hv0 =>
   refine⟨?_,c7d hE h1 hXst hXobj hr hv.2 hv0.2 fun i k' q=>by simpa using hb (i+1) k' (by simpa using q)⟩
   have hno1:∀ id e τ xs,b7c s.look ids id≠some (.row e τ xs):=fun id e τ xs q=>by obtain⟨_,_,cs,e⟩:=b1a q;cases e
   have hno2:∀ id τ xs,b7c s.look ids id≠some (.tree τ xs):=fun id τ xs q=>by obtain⟨_,_,cs,e⟩:=b1a q;cases e
   unfold d4w at hz
   split at hz
   ·rename_i τ q hT
    split at hz
    ·rename_i y hy
     simp only[Option.some.injEq] at hz
     subst hz
     exact b9i hno1 hno2 hy hv.1
    ·cases hz
   ·split at hz
    ·rename_i τ hT
     split at hz
     ·rename_i y hy
      simp only[Option.some.injEq] at hz
      subst hz
      exact e8g h1 hXst hXobj hy hv.1 _
     ·cases hz
    ·split at hz
     ·simp only[Option.some.injEq] at hz
      subst hz
      cases hnc
     ·split at hz
      ·rename_i f
       simp only[Option.some.injEq] at hz
       subst hz
       exact hv.1
      ·cases hz
  | x::xs,[],_,hv0=>exact hv0.elim
 | [],_::_,_,_,_,_,h,_,_,_=>by simp[b1j] at h
 | [],[],_::_,_,_,_,h,_,_,_=>by simp[b1j] at h
 | some _::_,[],_,_,_,_,h,_,_,_=>by simp[b1j] at h
 | none::_,[],_,_,_,_,h,_,_,_=>by simp[b1j] at h
 | some _::_,_::_,[],_,_,_,h,_,_,_=>by simp[b1j] at h
 | none::_,_::_,[],_,_,_,h,_,_,_=>by simp[b1j] at h
def a4q:List CK→List TV→List TV
 | .d _::ks,_::ds=>a4q ks ds
 | .o _::ks,v::ds=>v::a4q ks ds
 | .p _::ks,ds=>a4q ks ds
 | _,_=>[]
def b3e:List CK→List Value→List Value
 | .o _::ks,x::xs=>x::b3e ks xs
 | _::ks,_::xs=>b3e ks xs
 | _,_=>[]
theorem a8t.owns{S:Nat→Prop}{B:Nat→Nat}:∀ {ks:List CK} {ds:List TV} {l:List Value} {fp:List Nat},a8t w S B ks ds l fp→a1t w ((a4q ks ds).map TV.toD) (b3e ks l) fp∧(∀ u∈a4q ks ds,u.τ.agg=false)∧(a4q ks ds).length=(b3e ks l).length
 | [],[],[],fp,h=>⟨⟨rfl,h⟩,by simp[a4q],rfl⟩
 | .d τ::ks,v::ds,x::xs,fp,h=>by
  obtain⟨_,h2⟩:=h
  obtain⟨k1,k2,k3⟩:=a8t.owns h2
  exact⟨k1,k2,k3⟩
 | .o τ::ks,v::ds,x::xs,fp,h=>by
  obtain⟨f1,f2,rfl,⟨e,h1,h2⟩,h3⟩:=h
  obtain⟨k1,k2,k3⟩:=a8t.owns h3
  refine⟨⟨x,b3e ks xs,f1,f2,rfl,rfl,h2,k1⟩,fun u hu=>?_,by simp[a4q,b3e,k3]⟩
  rcases List.mem_cons.1 hu with rfl|hu
  ·rw[e];exact h1
  ·exact k2 u hu
 | .p j::ks,ds,x::xs,fp,h=>by
  have h:x = .pointer (some ⟨B j,0,none⟩)∧a8t w S B ks ds xs fp:=by cases ds<;>exact h
  obtain⟨k1,k2,k3⟩:=a8t.owns h.2
  refine⟨?_,?_,?_⟩<;>cases ds<;>first|exact k1|exact k2|exact k3
 | [],_::_,_,_,h=>h.elim
 | [],[],_::_,_,h=>h.elim
 | .d _::_,[],_,_,h=>by cases h
 | .o _::_,[],_,_,h=>by cases h
 | .d _::_,_::_,[],_,h=>by cases h
 | .o _::_,_::_,[],_,h=>by cases h
 | .p _::_,ds,[],_,h=>by cases ds<;>cases h
theorem c5f:∀ (n:Nat) (a b:List TV),a1d n (a++b)=a1d n a++a1d (n+a.length) b
 | n,[],b=>by simp[a1d]
 | n,u::a,b=>by
  have:=c5f (n+1) a b
  simp only[List.cons_append,a1d,this,List.append_assoc,List.length_cons]
  rw[show n+1+a.length=n+(a.length+1) by omega]
theorem c2j:∀ (n:Nat) (a b:List TV),a1z n (a++b)=a1z n a++a1z (n+a.length) b
 | n,[],b=>by simp[a1z]
 | n,u::a,b=>by
  have:=c2j (n+1) a b
  simp only[List.cons_append,a1z,this,List.length_cons]
  rw[show n+1+a.length=n+(a.length+1) by omega]
theorem a1t.append:∀ {a b:List D} {x y:List Value} {f g:List Nat},a1t w a x f→a1t w b y g→a1t w (a++b) (x++y) (f++g)
 | [],b,x,y,f,g,h,k=>by
  obtain⟨rfl,rfl⟩:=h
  exact k
 | d::a,b,x,y,f,g,h,k=>by
  obtain⟨v,r,f1,f2,rfl,rfl,h3,h4⟩:=h
  exact⟨v,r++y,f1,f2++g,rfl,by simp,h3,h4.append k⟩
theorem b3d{m:List (Nat×Nat)}{S:Nat→Prop}{B:Nat→Nat}{G':Gh}{lk':Nat→Option a0d}(hS:∀ b,S b→G'.S b)(hB:∀ j id,a0f m j=some id→G'.η id = .pointer (some ⟨B j,0,none⟩)∧a5k (lk' id)=true) :
  ∀ {ks:List CK} {cs:List AV} {ds:List TV} {n n':Nat} {r:List AV} {os:List (Nat×a0d)} {l:List Value} {fp:List Nat},a1b m ks cs ds n=some (r,os,n')→a8t w S B ks ds l fp→a0g (C1 c G' lk' w) (a1z n (a4q ks ds)) (b3e ks l) →
   a0g (C1 c G' lk' w) r l
 | [],[],[],n,n',r,os,l,fp,h,hb,hc=>by
  simp only[a1b,Option.some.injEq,Prod.mk.injEq] at h
  obtain⟨rfl,rfl,rfl⟩:=h
  match l,hb with
  | [],_=>trivial
 | .d τ::ks,c0::cs,v::ds,n,n',r,os,l,fp,h,hb,hc=>by
  simp only[a1b] at h
  split at h
  case h_2=>cases h
  case h_1 hv =>
  split at h
  case h_2=>cases h
  case h_1 r1 os1 n1 hr =>
  simp only[Option.some.injEq,Prod.mk.injEq] at h
  obtain⟨rfl,rfl,rfl⟩:=h
  match l,hb with
  | x::l,hb =>
   obtain⟨⟨e,h1,h2⟩,h3⟩:=hb
   exact⟨⟨by rw[e];exact h1,Rd.keep hS (fun _ _=>rfl) _ h2⟩,b3d hS hB hr h3 hc⟩
 | .o τ::ks,c0::cs,v::ds,n,n',r,os,l,fp,h,hb,hc=>by
  simp only[a1b] at h
  split at h
  case h_2=>cases h
  case h_1 hv =>
  split at h
  case h_2=>cases h
  case h_1 r1 os1 n1 hr =>
  simp only[Option.some.injEq,Prod.mk.injEq] at h
  obtain⟨rfl,rfl,rfl⟩:=h
  match l,hb with
  | x::l,hb =>
   obtain⟨f1,f2,rfl,⟨e,h1,h2⟩,h3⟩:=hb
   exact⟨hc.1,b3d hS hB hr h3 hc.2⟩
 | .p j::ks,c0::cs,ds,n,n',r,os,l,fp,h,hb,hc=>by
  simp only[a1b] at h
  split at h
  case h_2=>cases h
  case h_1 id =>
  split at h
  case h_2=>cases h
  case h_1 i hi =>
  split at h
  case h_2=>cases h
  case h_1 r1 os1 n1 hbe hr =>
  have hbe:=Nat.eq_of_beq_eq_true hbe
  subst hbe
  simp only[Option.some.injEq,Prod.mk.injEq] at h
  obtain⟨rfl,rfl,rfl⟩:=h
  match l,hb with
  | x::l,hb =>
   have hb:x = .pointer (some ⟨B j,0,none⟩)∧a8t w S B ks ds l fp:=by cases ds<;>exact hb
   have hc:a0g (C1 c G' lk' w) (a1z n (a4q ks ds)) (b3e ks l):=by cases ds<;>exact hc
   obtain⟨q1,q2⟩:=hB j i hi
   exact⟨⟨B j,q1,hb.1,q2⟩,b3d hS hB hr hb.2 hc⟩
  | [],hb=>cases ds<;>cases hb
 | [],_::_,_,_,_,_,_,_,_,h,_,_=>by simp[a1b] at h
 | [],[],_::_,_,_,_,_,_,_,h,_,_=>by simp[a1b] at h
 | .d _::_,[],_,_,_,_,_,_,_,h,_,_=>by simp[a1b] at h
 | .o _::_,[],_,_,_,_,_,_,_,h,_,_=>by simp[a1b] at h
 | .p _::_,[],ds,_,_,_,_,_,_,h,_,_=>by cases ds<;>simp[a1b] at h
 | .d _::_,_::_,[],_,_,_,_,_,_,h,_,_=>by simp[a1b] at h
 | .o _::_,_::_,[],_,_,_,_,_,_,h,_,_=>by simp[a1b] at h
theorem b7b{m:List (Nat×Nat)}:∀ {ks:List CK} {cs:List AV} {ds:List TV} {n n':Nat} {r:List AV} {os:List (Nat×a0d)},a1b m ks cs ds n=some (r,os,n')→os=a1d n (a4q ks ds)∧n'=n+(a4q ks ds).length
 | [],[],[],n,n',r,os,h=>by
  simp only[a1b,Option.some.injEq,Prod.mk.injEq] at h
  obtain⟨rfl,rfl,rfl⟩:=h
  exact⟨rfl,rfl⟩
 | .d τ::ks,c0::cs,v::ds,n,n',r,os,h=>by
  simp only[a1b] at h
  split at h
  case h_2=>cases h
  case h_1 hv =>
  split at h
  case h_2=>cases h
  case h_1 r1 os1 n1 hr =>
  simp only[Option.some.injEq,Prod.mk.injEq] at h
  obtain⟨rfl,rfl,rfl⟩:=h
  obtain⟨e1,e2⟩:=b7b hr
  exact⟨e1,e2⟩
 | .o τ::ks,c0::cs,v::ds,n,n',r,os,h=>by
  simp only[a1b] at h
  split at h
  case h_2=>cases h
  case h_1 hv =>
  split at h
  case h_2=>cases h
  case h_1 r1 os1 n1 hr =>
  simp only[Option.some.injEq,Prod.mk.injEq] at h
  obtain⟨rfl,rfl,rfl⟩:=h
  obtain⟨e1,e2⟩:=b7b hr
  exact⟨by rw[e1];rfl,by rw[e2];simp[a4q];omega⟩
 | .p j::ks,c0::cs,ds,n,n',r,os,h=>by
  simp only[a1b] at h
  split at h
  case h_2=>cases h
  case h_1 id =>
  split at h
  case h_2=>cases h
  case h_1 i hi =>
  split at h
  case h_2=>cases h
  case h_1 r1 os1 n1 hbe hr =>
  simp only[Option.some.injEq,Prod.mk.injEq] at h
  obtain⟨rfl,rfl,rfl⟩:=h
  obtain⟨e1,e2⟩:=b7b hr
  cases ds<;>exact⟨e1,e2⟩
 | [],_::_,_,_,_,_,_,h=>by simp[a1b] at h
 | [],[],_::_,_,_,_,_,h=>by simp[a1b] at h
 | .d _::_,[],_,_,_,_,_,h=>by simp[a1b] at h
 | .o _::_,[],_,_,_,_,_,h=>by simp[a1b] at h
 | .p _::_,[],ds,_,_,_,_,h=>by cases ds<;>simp[a1b] at h
 | .d _::_,_::_,[],_,_,_,_,h=>by simp[a1b] at h
 | .o _::_,_::_,[],_,_,_,_,h=>by simp[a1b] at h
theorem Inv.afterB{s1:a0c}(h1:Inv c G s1 a w){S' X:Nat→Prop}{lkA:Nat→Option a0d}(hk:a1p X w w')(hX:∀ b,X b→c.w0.heap.size≤b∨c.X b)(hXS:∀ b,X b→¬ G.S b)
  (hS:∀ b,G.S b→S' b) (hSlt:∀ b,S' b→b<w'.heap.size) (hSold:∀ b,b<w.heap.size→¬ X b→(S' b↔G.S b))
  (hobj:∀ id,(lkA id=s1.look id∧∀ o b,s1.look id=some o→blk (G.η id)=some b→¬ X b) ∨
   ∃ cs cs',s1.look id=some (.box cs)∧lkA id=some (.box cs')∧(∀ b,blk (G.η id)=some b→¬ S' b)∧∃ b l t,G.η id = .pointer (some ⟨b,0,none⟩)∧w'.heap[b]?=some (.cells l.toArray t (0,0))∧∀ (G:Gh) (lk:Nat→Option a0d),a0g (C1 c G lk w') cs' l)
  (htr:∀ id τ xs b,s1.look id=some (.tree τ xs)→b∈G.φ id→¬ X b):a0l c ⟨S',G.η,G.φ⟩ s1.sl s1.slots.length lkA a w':=by
 have hsame:∀ id,a2p (s1.look id) (lkA id):=fun id=>by
  rcases hobj id with ⟨e,_⟩|⟨cs,cs',e1,e2,_⟩
  ·rw[e];exact a2p.refl _
  ·rw[e1,e2];exact⟨fun _=>rfl,(fun e τ xs q=>by cases q),(fun q=>by cases q),fun q=>by cases q⟩
 have hst:∀ b,St c G.S b→w'.heap[b]?=w.heap[b]?:=fun b hb=>by
  rcases hb with hb|hb
  ·exact hk.block b (h1.sLt b hb) fun q=>hXS b q hb
  ·exact hk.block b (Nat.lt_of_lt_of_le hb.1 h1.keep.size) fun q=>(hX b q).elim (fun q=>by omega) hb.2.1
 have hold:∀ id o,lkA id=some o→∃ o',s1.look id=some o'∧(∀ τ xs,o = .tree τ xs→o' = .tree τ xs):=fun id o ho=>by
  rcases hobj id with ⟨e,_⟩|⟨cs,cs',e1,e2,_⟩
  ·exact⟨o,by rw[←e];exact ho,fun τ xs q=>q⟩
  ·rw[e2] at ho
   simp only[Option.some.injEq] at ho
   exact⟨_,e1,fun τ xs q=>by rw[q] at ho;cases ho⟩
 have htl:∀ id τ xs,lkA id=some (.tree τ xs)→s1.look id=some (.tree τ xs):=fun id τ xs ht=>by
  obtain⟨o',q1,q2⟩:=hold id _ ht
  rw[q1,q2 τ xs rfl]
 exact {
  defers:=h1.defers,size:=h1.size
  keep:=h1.keep.trans hk fun i hi hy=>(hX i hy).elim (fun q=>by omega) id
  xLt:=h1.xLt
  sOld:=fun b hb hx=>(hSold b (Nat.lt_of_lt_of_le hb h1.keep.size) fun q=>(hX b q).elim (fun q=>by omega) hx).trans (h1.sOld b hb hx)
  sX:=fun b hb=>hS b (h1.sX b hb)
  sLt:=hSlt
  slots:=fun i=>(h1.slots i).mono (fun id _=>⟨hsame id,rfl⟩) hS hst
  objs:=fun id o ho=>by
   rcases hobj id with ⟨e,e'⟩|⟨cs,cs',e1,e2,_,b,l,t,e3,e4,e5⟩
   ·rw[e] at ho
    exact (h1.objs id o ho).mono rfl (fun b hb=>hk.block b (h1.place id o b ho hb).2.2 (e' o b ho hb)) (fun j _=>⟨hsame j,rfl⟩) hS hst
   ·rw[e2] at ho
    simp only[Option.some.injEq] at ho
    subst ho
    exact⟨b,l,t,e3,e4,e5 _ _⟩
  place:=fun id o b ho hb=>by
   obtain⟨o',q1,_⟩:=hold id o ho
   obtain⟨p1,p2,p3⟩:=h1.place id o' b q1 hb
   refine⟨p1,?_,Nat.lt_of_lt_of_le p3 hk.size⟩
   rcases hobj id with ⟨e,e'⟩|⟨cs,cs',e1,e2,e3,_⟩
   ·exact fun q=>p2 ((hSold b p3 (e' o' b q1 hb)).1 q)
   ·exact e3 b hb
  apart:=fun id id' o o' b ho ho' hb hb'=>by
   obtain⟨p,q1,_⟩:=hold id o ho
   obtain⟨p',q2,_⟩:=hold id' o' ho'
   exact h1.apart id id' p p' b q1 q2 hb hb'
  trees:={
   tr:=fun id τ xs ht=>(h1.trees.tr id τ xs (htl id τ xs ht)).keep fun b hb=>hk.block b (h1.trees.pl id τ xs b (htl id τ xs ht) hb).2.2.1 (htr id τ xs b (htl id τ xs ht) hb)
   nd:=fun id τ xs ht=>h1.trees.nd id τ xs (htl id τ xs ht)
   pl:=fun id τ xs b ht hb=>by
    obtain⟨p1,p2,p3,p4⟩:=h1.trees.pl id τ xs b (htl id τ xs ht) hb
    refine⟨p1,fun q=>p2 ((hSold b p3 (htr id τ xs b (htl id τ xs ht) hb)).1 q),Nat.lt_of_lt_of_le p3 hk.size,fun i o ho=>?_⟩
    obtain⟨o',q1,_⟩:=hold i o ho
    exact p4 i o' q1
   ap:=fun id id' τ τ' xs xs' b ht ht'=>h1.trees.ap id id' τ τ' xs xs' b (htl id τ xs ht) (htl id' τ' xs' ht') }
  root:=fun id v hr ht=>h1.root id v hr (by
   match hl:lkA id,ht with
   | some (.tree τ xs),_=>rw[htl id τ xs hl];rfl)
  rng:=h1.rng
  rootB:=fun id v hr ht=>h1.rootB id v hr (by
   rcases hobj id with ⟨e,_⟩|⟨cs,cs',e1,e2,_⟩
   ·rw[←e];exact ht
   ·rw[e1];rfl)
  rngB:=h1.rngB }
theorem a0l.refB{sl:Nat→AV}{n:Nat}{lk lk2:Nat→Option a0d}(h:a0l c G sl n lk a w)(hobj:∀ id,lk2 id=lk id∨∃ cs cs',lk id=some (.box cs)∧lk2 id=some (.box cs')∧∃ b l t,G.η id = .pointer (some ⟨b,0,none⟩)∧w.heap[b]?=some (.cells l.toArray t (0,0))∧a0g (C1 c G lk2 w) cs' l) :
  a0l c G sl n lk2 a w:=by
 have hsame:∀ id,a2p (lk id) (lk2 id):=fun id=>by
  rcases hobj id with e|⟨cs,cs',e1,e2,_⟩
  ·rw[e];exact a2p.refl _
  ·rw[e1,e2];exact⟨fun _=>rfl,(fun e τ xs q=>by cases q),(fun q=>by cases q),fun q=>by cases q⟩
 have hold:∀ id o,lk2 id=some o→∃ o',lk id=some o'∧(∀ τ xs,o = .tree τ xs→o' = .tree τ xs):=fun id o ho=>by
  rcases hobj id with e|⟨cs,cs',e1,e2,_⟩
  ·exact⟨o,by rw[←e];exact ho,fun τ xs q=>q⟩
  ·rw[e2] at ho
   simp only[Option.some.injEq] at ho
   exact⟨_,e1,fun τ xs q=>by rw[q] at ho;cases ho⟩
 have htl:∀ id τ xs,lk2 id=some (.tree τ xs)→lk id=some (.tree τ xs):=fun id τ xs ht=>by
  obtain⟨o',q1,q2⟩:=hold id _ ht
  rw[q1,q2 τ xs rfl]
 exact {
  defers:=h.defers,size:=h.size,keep:=h.keep,xLt:=h.xLt,sOld:=h.sOld,sX:=h.sX,sLt:=h.sLt
  slots:=fun i=>(h.slots i).mono (fun id _=>⟨hsame id,rfl⟩) (fun _ q=>q) (fun _ _=>rfl)
  objs:=fun id o ho=>by
   rcases hobj id with e|⟨cs,cs',e1,e2,b,l,t,e3,e4,e5⟩
   ·rw[e] at ho
    exact (h.objs id o ho).mono rfl (fun _ _=>rfl) (fun j _=>⟨hsame j,rfl⟩) (fun _ q=>q) (fun _ _=>rfl)
   ·rw[e2] at ho
    simp only[Option.some.injEq] at ho
    subst ho
    exact⟨b,l,t,e3,e4,e5⟩
  place:=fun id o b ho hb=>by
   obtain⟨o',q1,_⟩:=hold id o ho
   exact h.place id o' b q1 hb
  apart:=fun id id' o o' b ho ho' hb hb'=>by
   obtain⟨p,q1,_⟩:=hold id o ho
   obtain⟨p',q2,_⟩:=hold id' o' ho'
   exact h.apart id id' p p' b q1 q2 hb hb'
  trees:={
   tr:=fun id τ xs ht=>h.trees.tr id τ xs (htl id τ xs ht)
   nd:=fun id τ xs ht=>h.trees.nd id τ xs (htl id τ xs ht)
   pl:=fun id τ xs b ht hb=>by
    obtain⟨p1,p2,p3,p4⟩:=h.trees.pl id τ xs b (htl id τ xs ht) hb
    refine⟨p1,p2,p3,fun i o ho=>?_⟩
    obtain⟨o',q1,_⟩:=hold i o ho
    exact p4 i o' q1
   ap:=fun id id' τ τ' xs xs' b ht ht'=>h.trees.ap id id' τ τ' xs xs' b (htl id τ xs ht) (htl id' τ' xs' ht') }
  root:=fun id v hr ht=>h.root id v hr (by
   match hl:lk2 id,ht with
   | some (.tree τ xs),_=>rw[htl id τ xs hl];rfl)
  rng:=h.rng
  rootB:=fun id v hr ht=>h.rootB id v hr (by
   rcases hobj id with e|⟨cs,cs',e1,e2,_⟩
   ·rw[←e];exact ht
   ·rw[e1];rfl)
  rngB:=h.rngB }
theorem c7r{m:List (Nat×Nat)}{S:Nat→Prop}{B:Nat→Nat}{lk:Nat→Option a0d}:∀ {sh:List (List CK)} {k:Nat} {dss:List (List TV)} {n:Nat} {bs ts:List (Nat×a0d)} {fp:List Nat},b3q lk m sh k dss n=some (bs,ts)→b0c w S B k sh dss fp →
  ∃ owns xs,ts=a1d n owns∧a1t w (owns.map TV.toD) xs fp∧(∀ u∈owns,u.τ.agg=false) ∧
   (∀ j,k≤j→j<k+sh.length→∃ (id:Nat) (cs':List AV) (l:List Value) (t:TypeId),a0f m j=some id∧(id,a0d.box cs')∈bs∧w.heap[B j]?=some (.cells l.toArray t (0,0))∧l.length=cs'.length) ∧
   (∀ p∈bs,∃ (j:Nat) (cs':List AV) (l:List Value) (t:TypeId),k≤j∧j<k+sh.length∧a0f m j=some p.1∧p.2 = .box cs'∧w.heap[B j]?=some (.cells l.toArray t (0,0))∧l.length=cs'.length ∧
    ∀ (G':Gh) (lk':Nat→Option a0d),(∀ b,S b→G'.S b)→(∀ j id,a0f m j=some id→G'.η id = .pointer (some ⟨B j,0,none⟩)∧a5k (lk' id)=true)→a0g (C1 c G' lk' w) (a1z n owns) xs→a0g (C1 c G' lk' w) cs' l)
 | [],k,[],n,bs,ts,fp,h,hb=>by
  simp only[b3q,Option.some.injEq,Prod.mk.injEq] at h
  obtain⟨rfl,rfl⟩:=h
  exact⟨[],[],rfl,⟨rfl,hb⟩,by simp,fun j h1 h2=>by simp at h2;omega,by simp⟩
 | ks::sh,k,ds::dss,n,bs,ts,fp,h,hb=>by
  simp only[b3q] at h
  split at h
  case h_2=>cases h
  case h_1 id hid =>
  split at h
  case h_2=>cases h
  case h_1 cs hcs =>
  split at h
  case h_2=>cases h
  case h_1 r os n1 hr =>
  split at h
  case h_2=>cases h
  case h_1 bs1 ts1 hr2 =>
  simp only[Option.some.injEq,Prod.mk.injEq] at h
  obtain⟨rfl,rfl⟩:=h
  obtain⟨l,t,f1,f2,rfl,hw,hB,hbs⟩:=hb
  obtain⟨e1,e2⟩:=b7b hr
  obtain⟨owns,xs,q1,q2,q3,q4,q5⟩:=c7r hr2 hbs
  obtain⟨o1,o2,o3⟩:=hB.owns
  have hsplit:∀ {G':Gh} {lk':Nat→Option a0d},a0g (C1 c G' lk' w) (a1z n (a4q ks ds++owns)) (b3e ks l++xs)→a0g (C1 c G' lk' w) (a1z n (a4q ks ds)) (b3e ks l)∧a0g (C1 c G' lk' w) (a1z n1 owns) xs:=fun {G' lk'} q=>by
   rw[c2j,←e2] at q
   have hl:(a1z n (a4q ks ds)).length=(b3e ks l).length:=by
    rw[←o3]
    have:∀ (us:List TV) (n:Nat),(a1z n us).length=us.length:=fun us=>by
     induction us with
     | nil=>intro n;rfl
     | cons u us ih=>intro n;simp[a1z,ih]
    exact this _ _
   have h1:=q.take (a1z n (a4q ks ds)).length
   have h2:=q.drop (a1z n (a4q ks ds)).length
   rw[List.take_left,hl,List.take_left] at h1
   rw[List.drop_left,hl,List.drop_left] at h2
   exact⟨h1,h2⟩
  have hrl:l.length=r.length:=by
   have:∀ {ks:List CK} {cs:List AV} {ds:List TV} {n n':Nat} {r:List AV} {os:List (Nat×a0d)} {l:List Value} {fp:List Nat},a1b m ks cs ds n=some (r,os,n')→a8t w S B ks ds l fp→l.length=r.length:=by
    intro ks
    induction ks with
    | nil =>
     intro cs ds n n' r os l fp h hb
     cases cs<;>cases ds<;>simp[a1b] at h
     obtain⟨rfl,_⟩:=h
     cases l with
     | nil=>rfl
     | cons x l=>cases hb
    | cons k0 ks ih =>
     intro cs ds n n' r os l fp h hb
     cases l with
     | nil=>cases k0<;>cases ds<;>cases hb
     | cons x l =>
      cases k0 with
      | d τ =>
       cases cs with
       | nil=>simp[a1b] at h
       | cons c0 cs =>
        cases ds with
        | nil=>cases hb
        | cons v ds =>
         simp only[a1b] at h
         split at h
         case h_2=>cases h
         case h_1 hv =>
         split at h
         case h_2=>cases h
         case h_1 r1 os1 n1 hr =>
         simp only[Option.some.injEq,Prod.mk.injEq] at h
         obtain⟨rfl,rfl,rfl⟩:=h
         obtain⟨_,h2⟩:=hb
         simp[ih hr h2]
      | o τ =>
       cases cs with
       | nil=>simp[a1b] at h
       | cons c0 cs =>
        cases ds with
        | nil=>cases hb
        | cons v ds =>
         simp only[a1b] at h
         split at h
         case h_2=>cases h
         case h_1 hv =>
         split at h
         case h_2=>cases h
         case h_1 r1 os1 n1 hr =>
         simp only[Option.some.injEq,Prod.mk.injEq] at h
         obtain⟨rfl,rfl,rfl⟩:=h
         obtain⟨_,_,_,_,h2⟩:=hb
         simp[ih hr h2]
      | p j =>
       cases cs with
       | nil=>cases ds<;>simp[a1b] at h
       | cons c0 cs =>
        have hb:x = .pointer (some ⟨B j,0,none⟩)∧a8t w S B ks ds l fp:=by cases ds<;>exact hb
        simp only[a1b] at h
        split at h
        case h_2=>cases h
        case h_1 id =>
        split at h
        case h_2=>cases h
        case h_1 i hi =>
        split at h
        case h_2=>cases h
        case h_1 r1 os1 n1 hbe hr =>
        simp only[Option.some.injEq,Prod.mk.injEq] at h
        obtain⟨rfl,rfl,rfl⟩:=h
        simp[ih hr hb.2]
   exact this hr hB
  refine⟨a4q ks ds++owns,b3e ks l++xs,by rw[c5f,e1,q1,e2],by rw[List.map_append];exact o1.append q2,fun u hu=>(List.mem_append.1 hu).elim (o2 u) (q3 u),fun j h1 h2=>?_,fun p hp=>?_⟩
  ·by_cases hj:j=k
   ·subst hj
    exact⟨id,r,l,t,hid,List.mem_cons_self ..,hw,hrl⟩
   ·obtain⟨id',cs',l',t',g1,g2,g3,g4⟩:=q4 j (by omega) (by simp at h2;omega)
    exact⟨id',cs',l',t',g1,List.mem_cons_of_mem _ g2,g3,g4⟩
  ·rcases List.mem_cons.1 hp with rfl|hp
   ·exact⟨k,r,l,t,Nat.le_refl _,by simp,hid,rfl,hw,hrl,fun G' lk' h1 h2 h3=>b3d h1 h2 hr hB (hsplit h3).1⟩
   ·obtain⟨j,cs',l',t',g1,g2,g3,g4,g5,g7,g6⟩:=q5 p hp
    exact⟨j,cs',l',t',by omega,by simp;omega,g3,g4,g5,g7,fun G' lk' h1 h2 h3=>g6 G' lk' h1 h2 (hsplit h3).2⟩
 | [],_,_::_,_,_,_,_,h,_=>by simp[b3q] at h
 | _::_,_,[],_,_,_,_,h,_=>by simp[b3q] at h
theorem b8y{α:Type}:∀ {l:List (Nat×α)} {k:Nat},(∀ p∈l,p.1≠k)→a0f l k=none
 | [],k,_=>rfl
 | (j,o)::l,k,h=>by
  rw[b8x,if_neg (fun e=>h (j,o) (by simp) e.symm)]
  exact b8y fun p hp=>h p (by simp[hp])
theorem c7q:∀ (ids:List Nat) (l:List (Nat×a0d)) (i:Nat),a0f (a5c ids l) i=if i∈ids then none else a0f l i
 | [],l,i=>by simp[a5c]
 | id::r,l,i=>by
  rw[a5c,c7q r,a3f]
  by_cases h1:i∈r
  ·simp[h1]
  ·by_cases h2:i=id
   ·simp[h1,h2]
   ·simp[h1,h2]
theorem c6l{m:List (Nat×Nat)}(h2:(m.map (·.2)).Nodup){j k id:Nat}(hj:a0f m j=some id)(hk:a0f m k=some id):j=k:=by
 have e1:=a4g hj
 have e2:=a4g hk
 have:(j,id)=(k,id):=by
  clear hj hk
  induction m with
  | nil=>cases e1
  | cons p m ih =>
   simp only[List.map_cons,List.nodup_cons] at h2
   rcases List.mem_cons.1 e1 with q1|e1
   ·rcases List.mem_cons.1 e2 with q2|e2
    ·rw[q1,q2]
    ·exact absurd (List.mem_map.2 ⟨(k,id),e2,by rw[←q1]⟩) h2.1
   ·rcases List.mem_cons.1 e2 with q2|e2
    ·exact absurd (List.mem_map.2 ⟨(j,id),e1,by rw[←q2]⟩) h2.1
    ·exact ih h2.2 e1 e2
 exact congrArg Prod.fst this
theorem c0s{m:List (Nat×Nat)}{k id:Nat}(h:a0f m k=some id):id∈m.map (·.2):=List.mem_map.2 ⟨_,a4g h,rfl⟩
theorem e7z{m:List (Nat×Nat)}{n:Nat}(h1:(m.map (·.1)).Nodup)(hl:m.length=n)(hk:∀ k,k<n→∃ id,a0f m k=some id):∀ p∈m,p.1<n:=by
 have hsub:List.range n ⊆ m.map (·.1):=fun k hk'=>by
  obtain⟨id,q⟩:=hk k (List.mem_range.1 hk')
  exact List.mem_map.2 ⟨_,a4g q,rfl⟩
 have hperm:(m.map (·.1)) ⊆ List.range n:=by
  intro x hx
  refine Classical.byContradiction fun hn=>?_
  have h3:(x::List.range n).Nodup:=List.nodup_cons.2 ⟨hn,List.nodup_range⟩
  have h4:(x::List.range n) ⊆ m.map (·.1):=fun y hy=>(List.mem_cons.1 hy).elim (fun e=>e ▸ hx) (fun hy=>hsub hy)
  have:=List.Nodup.length_le_of_subset h3 h4
  simp at this
  omega
 exact fun p hp=>List.mem_range.1 (hperm (List.mem_map.2 ⟨p,hp,rfl⟩))
theorem e6v(hE:a0r c.P c.E)(h:Inv c G s a w){o:Oper}{vc:Vc}{s':a0c}(hq:sop c.E s o=some (vc,s'))(hvc:vc.ok){Q:Exit→Act→World→Prop} :
  o.wp c.P a w (fun a' w'=>∃ G',Inv c G' s' a' w') Q:=by
 unfold sop at hq
 split at hq
 case h_2=>cases hq
 case h_1 d hd =>
 split at hq
 case h_2=>cases hq
 case h_1 cl hop =>
 split at hq
 case h_2=>cases hq
 case h_1 f hcal =>
 split at hq
 case h_2=>cases hq
 case h_1 sk hsk =>
 split at hq
 case h_2=>cases hq
 case h_1 m0 hm0 =>
 split at hq
 case h_2=>cases hq
 case h_1 dss ids m hm =>
 split at hq
 case h_2=>cases hq
 case h_1 hchk =>
 split at hq
 case h_2=>cases hq
 case h_1 as has =>
 split at hq
 case h_2=>cases hq
 case h_1 pre res dss' hc =>
 split at hq
 case h_2=>cases hq
 case h_1 bs ts hnew =>
 split at hq
 case h_2=>cases hq
 case h_1 hfd =>
 simp only[Option.some.injEq,Prod.mk.injEq] at hq
 obtain⟨rfl,rfl⟩:=hq
 simp only[Bool.and_eq_true] at hchk
 obtain⟨hn1,hn2,hn3,hn4⟩:=hchk
 have hn1:=a1y hn1
 have hn2:=a1y hn2
 have hn3:=a1y hn3
 have hn4:=Nat.eq_of_beq_eq_true hn4
 simp only[Bool.and_eq_true,List.all_eq_true] at hfd
 have hfree:∀ p∈a0o (a0s d) res++ts,(ids.foldl a0c.gone s).look p.1=none:=fun p hp=>by simpa using hfd.1 p hp
 have hdup:=a1y hfd.2
 obtain⟨hfn,hcall⟩:=hE.sctr f sk as dss pre res dss' hsk hc hvc
 obtain⟨_,hbind⟩:=b7w hm0
 obtain⟨hx0,hboxed,fa,hBR,hfan,hfaI⟩:=c5l h hm hn1
 have hBR:=hBR m (a6y.refl m)
 have hbind:∀ (i k:Nat),sk.ps[i]?=some (some k)→∃ id,(cl.args.toList.map s.eval)[i]?=some (AV.ptr id 0)∧a0f m k=some id:=fun i k q=>by
  obtain⟨id,q1,q2⟩:=hbind i k q
  exact⟨id,q1,hx0 k id q2⟩
 have h1:Inv c G (ids.foldl a0c.gone s) a w:=b7j ids h
 have hF:∀ b,b∈fa→FrB c G (ids.foldl a0c.gone s).look w b:=fun b hb=>c9g h (hfaI b hb)
 have hbox1:∀ k,k<sk.sh.length→∃ (id:Nat) (cs:List AV),a0f m k=some id∧(ids.foldl a0c.gone s).look id=some (.box cs):=fun k hk=>by
  obtain⟨id,cs,q1,q2⟩:=hboxed k (Nat.zero_le _) (by simpa using hk)
  refine⟨id,?_⟩
  have hid:id∉ids:=fun hi=>by
   have:∀ {sh:List (List CK)} {k:Nat} {m m':List (Nat×Nat)} {dss:List (List TV)} {ids:List Nat},a9p s.look sh k m=some (dss,ids,m')→∀ i∈ids,∀ cs,s.look i≠some (.box cs):=by
    have hcell:∀ {ks:List CK} {cs:List AV} {m m':List (Nat×Nat)} {ds:List TV} {ids:List Nat},a1w s.look ks cs m=some (ds,ids,m')→∀ i∈ids,∀ cs,s.look i≠some (.box cs):=by
     intro ks
     induction ks with
     | nil =>
      intro cs m m' ds ids ht
      cases cs<;>simp[a1w] at ht
      obtain⟨_,rfl,_⟩:=ht
      simp
     | cons k0 ks ih =>
      intro cs m m' ds ids ht
      cases cs with
      | nil=>cases k0<;>simp[a1w] at ht
      | cons v cs =>
       cases k0 with
       | d τ =>
        simp only[a1w] at ht
        split at ht
        case h_2=>cases ht
        case h_1 y hy hagg =>
        split at ht
        case h_2=>cases ht
        case h_1 ds1 ids1 m1 hr =>
        simp only[Option.some.injEq,Prod.mk.injEq] at ht
        obtain⟨_,rfl,_⟩:=ht
        exact ih hr
       | o τ =>
        simp only[a1w] at ht
        split at ht
        case h_2=>cases ht
        case h_1 y i hy hagg =>
        split at ht
        case h_2=>cases ht
        case h_1 ds1 ids1 m1 hr =>
        simp only[Option.some.injEq,Prod.mk.injEq] at ht
        obtain⟨_,rfl,_⟩:=ht
        intro j hj cs2
        rcases List.mem_append.1 hj with hj|hj
        ·unfold a2i at hy
         split at hy
         ·split at hy
          ·simp only[Option.some.injEq,Prod.mk.injEq] at hy
           obtain⟨_,rfl⟩:=hy
           cases hj
          ·cases hy
         ·split at hy
          ·simp only[Option.some.injEq,Prod.mk.injEq] at hy
           obtain⟨_,rfl⟩:=hy
           cases hj
          ·cases hy
         ·split at hy
          ·rename_i hl
           split at hy
           ·simp only[Option.some.injEq,Prod.mk.injEq] at hy
            obtain⟨_,rfl⟩:=hy
            simp only[List.mem_singleton] at hj
            subst hj
            rw[hl]
            simp
           ·cases hy
          ·cases hy
         ·split at hy
          ·rename_i hl
           split at hy
           ·simp only[Option.some.injEq,Prod.mk.injEq] at hy
            obtain⟨_,rfl⟩:=hy
            simp only[List.mem_singleton] at hj
            subst hj
            rw[hl]
            simp
           ·cases hy
          ·cases hy
         ·cases hy
        ·exact ih hr j hj cs2
       | p j =>
        simp only[a1w] at ht
        split at ht
        case h_2=>cases ht
        case h_1 id =>
        split at ht
        ·split at ht
         ·exact ih ht
         ·cases ht
        ·exact ih ht
    intro sh
    induction sh with
    | nil =>
     intro k m m' dss ids ht
     simp only[a9p,Option.some.injEq,Prod.mk.injEq] at ht
     obtain⟨_,rfl,_⟩:=ht
     simp
    | cons ks sh ih =>
     intro k m m' dss ids ht
     simp only[a9p] at ht
     split at ht
     case h_2=>cases ht
     case h_1 id hid =>
     split at ht
     case h_2=>cases ht
     case h_1 cs hcs =>
     split at ht
     case h_2=>cases ht
     case h_1 ds i m1 hr =>
     split at ht
     case h_2=>cases ht
     case h_1 dss1 ids1 m2 hr2 =>
     simp only[Option.some.injEq,Prod.mk.injEq] at ht
     obtain⟨_,rfl,_⟩:=ht
     intro j hj cs2
     rcases List.mem_append.1 hj with hj|hj
     ·exact hcell hr j hj cs2
     ·exact ih hr2 j hj cs2
   exact this hm id hi cs q2
  have:∀ (ids:List Nat) (s:a0c) (cs:List AV),id∉ids→s.look id=some (.box cs)→∃ cs',(ids.foldl a0c.gone s).look id=some (.box cs'):=by
   intro ids
   induction ids with
   | nil=>intro s cs _ hs;exact⟨cs,hs⟩
   | cons i ids ih =>
    intro s cs hi hs
    have hne:id≠i:=fun e=>hi (by simp[e])
    refine ih (s.gone i) (cs.map (AV.kill i)) (fun q=>hi (by simp[q])) ?_
    rw[c2d,if_neg hne,hs]
    rfl
  obtain⟨cs',q3⟩:=this ids s cs hid q2
  exact⟨cs',q1,q3⟩
 generalize hs1:ids.foldl a0c.gone s=s1 at *
 have hη:∀ k id,a0f m k=some id→k<sk.sh.length→G.η id = .pointer (some ⟨bOf G m k,0,none⟩)∧blk (G.η id)=some (bOf G m k):=fun k id hk hlt=>by
  obtain⟨id',cs,q1,q2⟩:=hbox1 k hlt
  rw[hk] at q1
  simp only[Option.some.injEq] at q1
  subst q1
  obtain⟨b,l,t,k1,_⟩:=h1.objs id _ q2
  have:bOf G m k=b:=by
   simp only[bOf,hk,k1]
   rfl
  rw[this,k1]
  exact⟨rfl,rfl⟩
 have hall:=e7z hn2 hn4 (fun k hk=>by obtain⟨id,_,q,_⟩:=hbox1 k hk;exact⟨id,q⟩)
 have hmid:∀ id,id∈m.map (·.2)→∃ k cs,k<sk.sh.length∧a0f m k=some id∧s1.look id=some (.box cs):=fun id hid=>by
  obtain⟨⟨k,id'⟩,hp,rfl⟩:=List.mem_map.1 hid
  have hk:=hall _ hp
  have hl:=b7a hn2 hp
  obtain⟨id2,cs,q1,q2⟩:=hbox1 k hk
  rw[hl] at q1
  simp only[Option.some.injEq] at q1
  subst q1
  exact⟨k,cs,hk,hl,q2⟩
 have hinj:∀ j k,j<sk.sh.length→k<sk.sh.length→bOf G m j=bOf G m k→j=k:=fun j k hj hk e=>by
  obtain⟨idj,csj,j1,j2⟩:=hbox1 j hj
  obtain⟨idk,csk,k1,k2⟩:=hbox1 k hk
  have:=h1.apart idj idk _ _ (bOf G m j) j2 k2 (hη j idj j1 hj).2 (by rw[e];exact (hη k idk k1 hk).2)
  subst this
  exact c6l hn3 j1 k1
 have hBlt:∀ k,k<sk.sh.length→(c.w0.heap.size≤bOf G m k∨c.X (bOf G m k))∧¬ G.S (bOf G m k)∧bOf G m k<w.heap.size:=fun k hk=>by
  obtain⟨id,cs,k1,k2⟩:=hbox1 k hk
  exact h1.place id _ _ k2 (hη k id k1 hk).2
 have hfaB:∀ b∈fa,∀ k,k<sk.sh.length→bOf G m k≠b:=fun b hb k hk e=>by
  obtain⟨id,cs,k1,k2⟩:=hbox1 k hk
  exact (hF b hb).2.2.2.1 id _ k2 (by rw[←e];exact (hη k id k1 hk).2)
 have hXo:∀ b,BX sk.sh.length (bOf G m) fa b→(c.w0.heap.size≤b∨c.X b)∧¬ G.S b:=fun b hb=>by
  rcases hb with hb|⟨k,hk,rfl⟩
  ·exact⟨(hF b hb).1,(hF b hb).2.1⟩
  ·exact⟨(hBlt k hk).1,(hBlt k hk).2.1⟩
 have hXst:∀ b,BX sk.sh.length (bOf G m) fa b→¬ St c G.S b:=fun b hb q=>by
  obtain⟨q1,q2⟩:=hXo b hb
  rcases q with q|⟨q,q3,_⟩
  ·exact q2 q
  ·exact q1.elim (fun q=>by omega) q3
 have hXobj:∀ id o b,id∉m.map (·.2)→s1.look id=some o→blk (G.η id)=some b→¬ BX sk.sh.length (bOf G m) fa b:=fun id o b hid ho hb q=>by
  rcases q with q|⟨k,hk,rfl⟩
  ·exact (hF b q).2.2.2.1 id _ ho hb
  ·obtain⟨id',cs,k1,k2⟩:=hbox1 k hk
   have:=h1.apart id id' _ _ _ ho k2 hb (hη k id' k1 hk).2
   subst this
   exact hid (c0s k1)
 have hXtr:∀ id τ xs b,s1.look id=some (.tree τ xs)→b∈G.φ id→¬ BX sk.sh.length (bOf G m) fa b:=fun id τ xs b ht hb q=>by
  rcases q with q|⟨k,hk,rfl⟩
  ·exact (hF b q).2.2.2.2 id τ xs ht hb
  ·obtain⟨id',cs,k1,k2⟩:=hbox1 k hk
   exact (h1.trees.pl id τ xs _ ht hb).2.2.2 id' _ k2 (hη k id' k1 hk).2
 have hargs:=c7d hE h1 (mf:=m) hXst (fun id cs b ho hb=>hXobj id _ b (b1a ho).2.1 (b1a ho).1 hb) (lk0:=s.look) has (a0g.of_ops (a0p h1) cl.args.toList) (a0g.of_ops (a0p h) cl.args.toList) hbind
 unfold Oper.wp
 rw[a6h hop hcal rfl hfn]
 simp only[Oper.upon]
 refine (hcall w G.S (bOf G m) _ fa h1.sOk hBR hfan (fun b hb=>⟨(hF b hb).2.2.1,(hF b hb).2.1,hfaB b hb⟩) (fun k hk=>⟨(hBlt k hk).2.2,(hBlt k hk).2.1⟩) hinj hargs).mono ?_
 rintro e w' ⟨x,S',fp,fa',rfl,hk,hS1,hS2,hS3,hO,hB',hnd,hfp,hBS⟩
 obtain⟨owns,xs,e1,e2,e3,e4,e5⟩:=c7r hnew hB'
 let lkA:Nat→Option a0d:=fun i=>match a0f bs i with
  | some (.box cs)=>some (.box (List.replicate cs.length .any))
  | _=>s1.look i
 have hbsOf:∀ id,id∈m.map (·.2)→∃ (k:Nat) (cs':List AV),k<sk.sh.length∧a0f m k=some id∧a0f bs id=some (.box cs')∧∃ (l:List Value) (t:TypeId),w'.heap[bOf G m k]?=some (.cells l.toArray t (0,0))∧l.length=cs'.length:=fun id hid=>by
  obtain⟨k,cs,k1,k2,k3⟩:=hmid id hid
  obtain⟨id',cs',l,t,g1,g2,g3,g4⟩:=e4 k (Nat.zero_le _) (by simpa using k1)
  rw[k2] at g1
  simp only[Option.some.injEq] at g1
  subst g1
  have hlk:∃ o,a0f bs id=some o:=by
   cases hl:a0f bs id with
   | some o=>exact⟨o,rfl⟩
   | none =>
    exfalso
    have:∀ {l:List (Nat×a0d)} {k:Nat},a0f l k=none→∀ p∈l,p.1≠k:=by
     intro l
     induction l with
     | nil=>intro k _ p hp;cases hp
     | cons q l ih =>
      intro k hq p hp
      obtain⟨j,o⟩:=q
      rw[b8x] at hq
      split at hq
      ·cases hq
      ·rename_i hne
       rcases List.mem_cons.1 hp with rfl|hp
       ·exact fun e=>hne e.symm
       ·exact ih hq p hp
    exact this hl _ g2 rfl
  obtain⟨o,ho⟩:=hlk
  obtain⟨j,cs2,l2,t2,_,j2,j3,j4,j5,j6,_⟩:=e5 _ (a4g ho)
  have:j=k:=c6l hn3 j3 k2
  subst this
  simp only at j4
  subst j4
  exact⟨j,cs2,k1,k2,ho,l2,t2,j5,j6⟩
 have hbsN:∀ id,id∉m.map (·.2)→a0f bs id=none:=fun id hid=>b8y fun p hp e=>by
  obtain⟨j,_,_,_,_,_,j3,_⟩:=e5 p hp
  exact hid (e ▸ c0s j3)
 have hlkA:∀ id,id∉m.map (·.2)→lkA id=s1.look id:=fun id hid=>by simp only[lkA,hbsN id hid]
 have hlkB:∀ id k cs',a0f m k=some id→a0f bs id=some (.box cs')→lkA id=some (.box (List.replicate cs'.length .any)):=fun id k cs' _ hb=>by simp only[lkA,hb]
 have hA:a0l c ⟨S',G.η,G.φ⟩ s1.sl s1.slots.length lkA a w':=by
  refine Inv.afterB h1 (X:=BX sk.sh.length (bOf G m) fa) hk (fun b hb=>(hXo b hb).1) (fun b hb=>(hXo b hb).2) hS1 hS2 hS3 (fun id=>?_) hXtr
  by_cases hid:id∈m.map (·.2)
  ·obtain⟨k,cs',q1,q2,q3,l,t,q4,q5⟩:=hbsOf id hid
   obtain⟨_,cs,_,_,q6⟩:=hmid id hid
   obtain⟨g1,g2⟩:=hη k id q2 q1
   refine .inr ⟨cs,_,q6,hlkB id k cs' q2 q3,fun b hb=>?_,bOf G m k,l,t,g1,q4,fun G' lk'=>?_⟩
   ·rw[g2] at hb
    simp only[Option.some.injEq] at hb
    subst hb
    exact hBS k q1
   ·have:∀ (l:List Value),a0g (C1 c G' lk' w') (List.replicate l.length .any) l:=fun l=>by
     induction l with
     | nil=>exact trivial
     | cons x l ih=>exact⟨trivial,ih⟩
    rw[←q5]
    exact this l
  ·exact .inl ⟨hlkA id hid,fun o b ho hb=>hXobj id o b hid ho hb⟩
 have hnoM:∀ p∈a0o (a0s d) res++ts,p.1∉m.map (·.2):=fun p hp hid=>by
  obtain⟨_,cs,_,_,q⟩:=hmid p.1 hid
  rw[hfree p hp] at q
  cases q
 rw[List.nodup_append] at hnd
 obtain⟨nd1,nd2,nd3⟩:=hnd
 rw[List.map_append,List.nodup_append] at hdup
 obtain⟨dd1,dd2,dd3⟩:=hdup
 have hFr:Fr c ⟨S',G.η,G.φ⟩ lkA w' (fp++fa'):=fun b hb=>by
  obtain⟨q1,q2,q3⟩:=hfp b hb
  have hbi:∀ i o,lkA i=some o→blk (G.η i)≠some b:=fun i o hio e=>by
   by_cases hid:i∈m.map (·.2)
   ·obtain⟨k,cs',g1,g2,_⟩:=hbsOf i hid
    rw[(hη k i g2 g1).2] at e
    simp only[Option.some.injEq] at e
    exact q3 k g1 e
   ·rw[hlkA i hid] at hio
    rcases q1 with q1|⟨q1,_⟩
    ·exact (hF b q1).2.2.2.1 i o hio e
    ·have:=(h1.place i o b hio e).2.2;omega
  have hbt:∀ j τ zs,lkA j=some (.tree τ zs)→b∉G.φ j:=fun j τ zs hj hbj=>by
   by_cases hid:j∈m.map (·.2)
   ·obtain⟨k,cs',g1,g2,g3,_⟩:=hbsOf j hid
    rw[hlkB j k cs' g2 g3] at hj
    cases hj
   ·rw[hlkA j hid] at hj
    rcases q1 with q1|⟨q1,_⟩
    ·exact (hF b q1).2.2.2.2 j τ zs hj hbj
    ·have:=(h1.trees.pl j τ zs b hj hbj).2.2.1;omega
  rcases q1 with q1|⟨q1,q1'⟩
  ·exact⟨(hF b q1).1,q2,Nat.lt_of_lt_of_le (hF b q1).2.2.1 hk.size,hbi,hbt⟩
  ·exact⟨.inl (Nat.le_trans h1.keep.size q1),q2,q1',hbi,hbt⟩
 have hRn:∀ j,a0s d≤j→c.R j=none:=fun j hj=>by
  cases hr:c.R j with
  | none=>rfl
  | some v=>have:=h.rng j v hr;unfold a0s at hj;omega
 obtain⟨ys,hO',hvr⟩:=d0j (c:=c) (id:=a0s d) hO
 obtain⟨G1,lk1,k1,k2,k3,k4,k5⟩:=hA.addVals (id:=a0s d) hO' nd1 (fun b hb=>hFr b (by simp[hb])) (fun p hp=>by
  rw[hlkA p.1 (hnoM p (by simp[hp]))]
  exact hfree p (by simp[hp])) dd1 hRn
 rw[e1] at dd2 dd3 hfree hnoM
 obtain⟨G2,lk2,p1,p2,p3,p4,_⟩:=k2.addCells (us:=owns) (cs:=xs) (fp:=fa') (id:=a0s d+60) e3 e2 nd2 (k5 fa' (fun b hb=>hFr b (by simp[hb])) fun b hb hb'=>nd3 b hb' b hb rfl) (fun p hp=>by
  rw[k1 p.1]
  unfold lkx
  rw[b8y (l:=a0o (a0s d) res) fun q hq e=>dd3 q.1 (List.mem_map.2 ⟨q,hq,rfl⟩) p.1 (List.mem_map.2 ⟨p,hp,rfl⟩) e]
  simp only
  rw[hlkA p.1 (hnoM p (by simp[hp]))]
  exact hfree p (by simp[hp])) dd2 (fun j hj=>hRn j (by omega))
 have hvr2:VR c G2 lk2 w' (a6p (a0s d) res) x:=hvr G2 lk2 (k4.imp fun u y _ hy=>hy.ext p3)
 have hput:=a0l.put (d:=some d) p2 hvr2
 have hfin:∀ i,a0c.look { slots:=s1.slots.set d (a6p (a0s d) res),objs:=bs++(a0o (a0s d) res++ts)++a5c (m.map (·.2)) s1.objs } i=lkx bs (lkx (a0o (a0s d) res) (lkx ts (fun i=>if i∈m.map (·.2) then none else s1.look i))) i:=fun i=>by
  show a0f (bs++(a0o (a0s d) res++ts)++a5c (m.map (·.2)) s1.objs) i=_
  rw[List.append_assoc,b3l,show a0f (a0o (a0s d) res++ts++a5c (m.map (·.2)) s1.objs)=lkx (a0o (a0s d) res) (lkx ts (fun i=>if i∈m.map (·.2) then none else s1.look i)) from funext fun j=>by
   rw[List.append_assoc,b3l,show a0f (ts++a5c (m.map (·.2)) s1.objs)=lkx ts (fun i=>if i∈m.map (·.2) then none else s1.look i) from funext fun j=>by
    rw[b3l,show a0f (a5c (m.map (·.2)) s1.objs)=(fun i=>if i∈m.map (·.2) then none else s1.look i) from funext fun j=>c7q _ _ j]]]
 generalize hst:({ slots:=s1.slots.set d (a6p (a0s d) res),objs:=bs++(a0o (a0s d) res++ts)++a5c (m.map (·.2)) s1.objs }:a0c)=s2 at *
 have hlk2:∀ i,lk2 i=lkx ts (lkx (a0o (a0s d) res) lkA) i:=fun i=>by
  rw[p1 i,e1]
  unfold lkx
  rw[k1 i]
  rfl
 have hout:∀ i,i∉m.map (·.2)→s2.look i=lk2 i:=fun i hid=>by
  rw[hfin i,hlk2 i]
  unfold lkx
  rw[hbsN i hid,hlkA i hid]
  simp only[if_neg hid]
  cases hV:a0f (a0o (a0s d) res) i with
  | none=>rfl
  | some o =>
   rw[b8y (l:=ts) fun q hq e=>dd3 i (List.mem_map.2 ⟨(i,o),a4g hV,rfl⟩) q.1 (List.mem_map.2 ⟨q,by rw[←e1];exact hq,rfl⟩) e.symm]
 have hin:∀ i,i∈m.map (·.2)→∃ k cs',k<sk.sh.length∧a0f m k=some i∧a0f bs i=some (.box cs')∧lk2 i=some (.box (List.replicate cs'.length .any))∧s2.look i=some (.box cs')∧G2.η i = .pointer (some ⟨bOf G m k,0,none⟩):=fun i hid=>by
  obtain⟨k,cs',q1,q2,q3,_⟩:=hbsOf i hid
  have hA':=hlkB i k cs' q2 q3
  obtain⟨r1,r2,_⟩:=(k3.trans p3).old i _ hA'
  refine⟨k,cs',q1,q2,q3,r1,?_,by rw[r2];exact (hη k i q2 q1).1⟩
  rw[hfin i]
  unfold lkx
  rw[q3]
 have hsame:∀ i,a2p (lk2 i) (s2.look i):=fun i=>by
  by_cases hid:i∈m.map (·.2)
  ·obtain⟨k,cs',_,_,_,q4,q5,_⟩:=hin i hid
   rw[q4,q5]
   exact⟨fun _=>rfl,(fun e τ xs q=>by cases q),(fun q=>by cases q),fun q=>by cases q⟩
  ·rw[hout i hid];exact a2p.refl _
 have hlast:=a0l.refB (lk2:=s2.look) hput (fun i=>by
  by_cases hid:i∈m.map (·.2)
  ·obtain⟨k,cs',q1,q2,q3,q4,q5,q6⟩:=hin i hid
   obtain⟨j,cs2,l,t,_,j2,j3,j4,j5,_,j7⟩:=e5 _ (a4g q3)
   have:j=k:=c6l hn3 j3 q2
   subst this
   simp only[a0d.box.injEq] at j4
   subst j4
   refine .inr ⟨_,_,q4,q5,bOf G m j,l,t,q6,j5,?_⟩
   refine j7 G2 s2.look (fun b hb=>by rw[p3.S,k3.S];exact hb) (fun j' id hj'=>?_) (p4.imp fun u y _ hy=>hy.mono (fun i _=>⟨hsame i,rfl⟩) (fun _ q=>q) (fun _ _=>rfl))
   obtain⟨k',cs'',g1,g2,_,_,g5,g6⟩:=hin id (c0s hj')
   have:j'=k':=c6l hn3 hj' g2
   subst this
   exact⟨g6,by rw[g5];rfl⟩
  ·exact .inl (hout i hid))
 refine⟨G2,?_⟩
 unfold Inv
 rw[hd,←hst,show a0c.sl { slots:=s1.slots.set d (a6p (a0s d) res),objs:=bs++(a0o (a0s d) res++ts)++a5c (m.map (·.2)) s1.objs }=a5y s1.slots.length s1.sl (some d) (a6p (a0s d) res) from b1d s1.slots d _ _,
  show ({ slots:=s1.slots.set d (a6p (a0s d) res),objs:=bs++(a0o (a0s d) res++ts)++a5c (m.map (·.2)) s1.objs }:a0c).slots.length=s1.slots.length from by simp,hst]
 exact hlast
end
end Go.Proofs.YtmdefiphdgcijaaDoor

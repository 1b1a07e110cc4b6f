/- Open, Lib. -/
import Derived.Test.YtmdefiphdgcijaaDoorRows
import Derived.Test.YtmdefiphdgcijaaDoorVmUse
import Derived.WalkKit
import Derived.ProofKit
import Derived.OpenShut
import Derived.JoinedCond
import Derived.Carry
import Derived.ChangeSame
set_option linter.unusedVariables false
namespace Go.Proofs.YtmdefiphdgcijaaDoor
open Go.ChangeShapes Go.WideShapes Go.ChangeAt Go.RowKit
theorem a1r.append{w:World}{S:Nat→Prop}:∀ (ds es:List D) {l m:List Value},a1r w S ds l→a1r w S es m→a1r w S (ds++es) (l++m)
 | [],_,_,_,h,k=>by rw[show _=[] from h];simpa using k
 | d::ds,es,_,m,h,k=>by
  obtain⟨c,r,rfl,h2,h3⟩:=h
  exact⟨c,r++m,by simp,h2,a1r.append ds es h3 k⟩
theorem e8f{w:World}{S:Nat→Prop}(t:Ty)(y:t.den){cs:List Value}(h:Rd w S (t.toD y) cs):a1r w S ((TV.cells ⟨t,y⟩).map TV.toD) cs:=by
 have one:∀ d:D,d.leaf=true→Rd w S d cs→a1r w S [d] cs:=by
  intro d hd h
  obtain⟨v,rfl,_⟩:=Rd.leafV hd h
  exact⟨v,[],rfl,h,rfl⟩
 cases t with
 | st s =>
  have h':Rd w S (s.toD y) cs:=h
  rw[a0h.toD_cells] at h'
  exact h'
 | int k=>exact one _ rfl h
 | bool=>exact one _ rfl h
 | str=>exact one _ rfl h
 | slice t=>exact one _ rfl h
 | mv t=>exact one _ (d4c _ _ _) h
 | ptr=>exact one _ rfl h
theorem d8n{w:World}{S:Nat→Prop}:∀ (ts:List Ty) (cs:List Value),cs.length=(ts.map Ty.size).sum →
  (∀ i t,ts[i]?=some t→∃ y:t.den,Rd w S (t.toD y) ((cs.drop ((ts.take i).map Ty.size).sum).take t.size)) →
  ∃ fl:List TV,fl.map TV.τ=ts∧a1r w S ((fl.flatMap TV.cells).map TV.toD) cs
 | [],cs,h,_=>⟨[],rfl,by
   have:cs=[]:=by simpa using h
   subst this;exact rfl⟩
 | t::ts,cs,h,k=>by
  obtain⟨y,hy⟩:=k 0 t rfl
  simp only[List.take_zero,List.map_nil,List.sum_nil,List.drop_zero] at hy
  simp only[List.map_cons,List.sum_cons] at h
  obtain⟨fl,h1,h2⟩:=d8n ts (cs.drop t.size) (by simp;omega) (fun i u hu=>by
   obtain⟨z,hz⟩:=k (i+1) u hu
   simp only[List.take_succ_cons,List.map_cons,List.sum_cons] at hz
   rw[←List.drop_drop] at hz
   exact⟨z,hz⟩)
  refine⟨⟨t,y⟩::fl,by simp[h1],?_⟩
  simp only[List.flatMap_cons,List.map_append]
  have:=a1r.append _ _ (e8f t y hy) h2
  rwa [List.take_append_drop] at this
theorem e6o{w:World}{S:Nat→Prop}(t:Ty)(b:Nat):∀ (n o:Nat),(∀ i,i<n→∃ (x:t.den) (cs:List Value),cs.length=t.size∧Rd w S (t.toD x) cs∧a1x w b (o+i * t.size) cs) →
  ∃ xs:List t.den,xs.length=n∧a1q w S (xs.map t.toD) b o
 | 0,o,_=>⟨[],rfl,trivial⟩
 | n+1,o,h=>by
  obtain⟨x,cs,h1,h2,h3⟩:=h 0 (by omega)
  obtain⟨xs,h4,h5⟩:=e6o t b n (o+t.size) (fun i hi=>by
   obtain⟨y,c,g1,g2,g3⟩:=h (i+1) (by omega)
   exact⟨y,c,g1,g2,by rw[show o+t.size+i * t.size=o+(i+1) * t.size by rw[Nat.add_mul];omega];exact g3⟩)
  refine⟨x::xs,by simp[h4],⟨cs,by rw[Ty.size_toD];exact h1,h2,by simpa using h3⟩,?_⟩
  rw[Ty.size_toD]
  exact h5
section
variable {H:Type} {enc:TypeId×Value→H} {w:World} {spare:Nat→Bool} {held:Bool}
theorem e2m(d:DataW H):1≤Rows.uptoBulk d:=by
 cases d with
 | lit l=>cases l<;>simp[Rows.uptoBulk]
 | nil=>simp[Rows.uptoBulk]
 | ptr d=>simp[Rows.uptoBulk]
 | slice elems spare=>simp[Rows.uptoBulk]
 | agg parts=>simp[Rows.uptoBulk]
 | iface t d=>simp[Rows.uptoBulk]
 | map entries=>simp[Rows.uptoBulk]
 | held h=>simp[Rows.uptoBulk]
theorem d7y{d:DataW H}{l:List (DataW H)}(h:d∈l):Rows.uptoBulk d≤Rows.uptoBulkAll l:=by
 induction l with
 | nil=>cases h
 | cons x r ih =>
  simp only[Rows.uptoBulkAll]
  cases List.mem_cons.1 h with
  | inl e=>subst e;omega
  | inr e=>have:=ih e;omega
theorem d7q(l:List (DataW H)):l.length≤Rows.uptoBulkAll l:=by
 induction l with
 | nil=>simp[Rows.uptoBulkAll]
 | cons x r ih=>have:=e2m x;simp only[Rows.uptoBulkAll,List.length_cons];omega
theorem b0a:a0r a0k (a1c []):=e0x trivial
theorem c2x{T b e:Nat}{τ:Ty}(h:a0f b9g T=some (τ,b,e)):a0k.cellsOf T=τ.size:=by
 obtain⟨i,z,h1,h2,_⟩:=(b0a.info (T:=T) (τ:=τ) (b:=b) (e:=e) h).ex
 simp[Program.cellsOf,h1,h2]
theorem e4m:∀ (fuel:Nat) (τ:Ty) (T b e:Nat) (cs:List Value) (x:DataW H×List MemPlace),a0f b9g T=some (τ,b,e)→DataW.trod enc a0k w 0 spare held fuel T cs=some x →
  Rows.uptoBulk x.1≤1048576→∃ y:τ.den,Rd w (·<w.heap.size) (τ.toD y) cs:=by
 intro fuel
 induction fuel with
 | zero =>
  intro τ T b e cs x ht h hk
  have h':(none:Option (DataW H×List MemPlace))=some x:=h
  cases h'
 | succ fuel ih =>
 intro τ T b e cs x ht h hk
 cases τ with
 | int k =>
  obtain⟨n,rfl,rfl,hw⟩:=DataW.trod_int (b0a.int ht) h
  refine⟨n,rfl,?_⟩
  simpa [Lit.wf] using hw
 | bool =>
  obtain⟨n,rfl,rfl⟩:=DataW.trod_bool (b0a.bool ht) h
  exact⟨n,rfl⟩
 | str =>
  obtain⟨n,rfl,rfl,hw⟩:=DataW.trod_string (b0a.str ht) h
  refine⟨n.data.toList,n,rfl,rfl,?_⟩
  simp[Rows.uptoBulk] at hk
  have:n.size=n.data.size:=rfl
  omega
 | mv t=>exact (b0a.nomv ht).elim
 | ptr =>
  obtain⟨t,hu⟩:=b0a.ptr ht
  rcases DataW.trod_pointer hu h with ⟨rfl,_⟩|⟨a,_,_,_,_,rfl,_⟩
  ·exact⟨(),_,rfl⟩
  ·exact⟨(),_,rfl⟩
 | slice t =>
  obtain⟨hu,⟨b',e',he⟩,_⟩:=b0a.slice ht
  have hc:=c2x he
  rcases DataW.trod_slice hu h with ⟨rfl,rfl⟩|⟨a,len,cap,elems,rest,n,hn,rfl,rfl,hb,hl,hm,hlen,hel,_⟩
  ·exact⟨[],none,0,rfl,Nat.le_refl _,Nat.zero_le _,Nat.zero_le _, .inl rfl⟩
  ·obtain rfl:n=fuel:=by omega
   rw[hc] at hel
   have hbulk:∀ (i:Nat) (z:DataW H×List MemPlace),elems[i]?=some z→Rows.uptoBulk z.1≤1048576:=by
    intro i z hz
    have h1:=d7y (d:=z.1) (l:=elems.map (·.1)) (List.mem_map.2 ⟨z,List.mem_of_getElem? hz,rfl⟩)
    simp only[Rows.uptoBulk] at hk
    omega
   have hone:∀ i,i<len→∃ (y:t.den) (c:List Value),c.length=t.size∧Rd w (·<w.heap.size) (t.toD y) c∧(∀ j v,c[j]?=some v→w.cell? ((a.add (i * t.size)).add j)=some v):=by
    intro i hi
    have hz:elems[i]?=some (elems[i]'(by omega)):=List.getElem?_eq_getElem (by omega)
    have:=hel i hi
    rw[hz,Option.bind_eq_some_iff] at this
    obtain⟨c,hc1,hc2⟩:=this
    obtain⟨y,hy⟩:=ih t e b' e' c _ he hc2 (hbulk i _ hz)
    obtain⟨_,h5,h6⟩:=World.cells?_some hc1
    refine⟨y,c,h5,hy,fun j v hj=>?_⟩
    rw[h6 j (by rw[←h5];exact (List.getElem?_eq_some_iff.1 hj).1),hj]
   have hlb:len≤1048576:=by
    have h1:=d7q (elems.map (·.1))
    simp only[Rows.uptoBulk,List.length_map] at hk h1
    omega
   rcases Nat.eq_zero_or_pos len with h0|h0
   ·subst h0
    exact⟨[],some a,cap,rfl,Nat.zero_le _,hm,Nat.zero_le _, .inl rfl⟩
   ·have hp:=Ty.size_pos t
    have hsp:a.spot=none:=by
     obtain⟨y,c,g1,g2,g3⟩:=hone 0 h0
     have hj:c[0]?=some (c[0]'(by omega)):=List.getElem?_eq_getElem (by omega)
     have:=World.cell?_spot (g3 0 _ hj)
     simpa [Addr.add] using this
    obtain⟨ab,ao,asp⟩:=a
    simp only at hsp
    subst hsp
    have hadd:∀ i j,((⟨ab,ao,none⟩:Addr).add i).add j=⟨ab,ao+i+j,none⟩:=by
     intro i j
     unfold Addr.add
     split<;>split<;>simp_all<;>omega
    obtain⟨xs,h1,h2⟩:=e6o (w:=w) (S:=(·<w.heap.size)) t ab len ao (fun i hi=>by
     obtain⟨y,c,g1,g2,g3⟩:=hone i hi
     exact⟨y,c,g1,g2,fun j v hj=>by rw[←hadd];exact g3 j v hj⟩)
    have hlt:ab<w.heap.size:=by
     obtain⟨y,c,g1,g2,g3⟩:=hone 0 h0
     have hj:c[0]?=some (c[0]'(by omega)):=List.getElem?_eq_getElem (by omega)
     have:=g3 0 _ hj
     rw[hadd] at this
     unfold World.cell? at this
     split at this
     ·rename_i hh
      exact (Array.getElem?_eq_some_iff.1 hh).1
     ·cases this
    have hlm:(xs.map t.toD).length=len:=by simp[h1]
    refine⟨xs,some ⟨ab,ao,none⟩,cap,by rw[hlm],by rw[hlm];exact hl,hm,by rw[hlm];omega, .inr ⟨ab,ao,rfl,hlt,h2⟩⟩
 | st s =>
  obtain⟨fs,hu,hsz,hf⟩:=b0a.st ht
  obtain⟨xs,n,hn,rfl,hcl,hxl,hx⟩:=DataW.trod_struct hu h
  obtain rfl:n=fuel:=by omega
  have hcs:cs.length=(s.ftys.map Ty.size).sum:=by
   rw[hcl,c2x ht]
   cases s<;>rfl
  obtain⟨fl,h1,h2⟩:=d8n (w:=w) (S:=(·<w.heap.size)) s.ftys cs hcs (fun i t hi=>by
   have hlt:i<fs.size:=by rw[hsz];exact (List.getElem?_eq_some_iff.1 hi).1
   obtain⟨t',b',e',g1,g2,g3⟩:=hf i (fs[i]'hlt) (Array.getElem?_eq_getElem hlt)
   rw[hi] at g1
   cases g1
   have hy:=hx i (fs[i]'hlt) (Array.getElem?_eq_getElem hlt)
   have hz:xs[i]?=some (xs[i]'(by omega)):=List.getElem?_eq_getElem (by omega)
   rw[hz,c2x g2,g3] at hy
   refine ih t _ b' e' _ _ g2 hy ?_
   have h3:=d7y (d:=(xs[i]'(by omega)).1) (l:=xs.map (·.1)) (List.mem_map.2 ⟨_,List.getElem_mem _,rfl⟩)
   simp only[Rows.uptoBulk] at hk
   omega)
  obtain⟨y,hy⟩:=a0h.fields_ex s fl h1
  refine⟨y,?_⟩
  show Rd w _ (s.toD y) cs
  rw[a0h.toD_cells,a0h.cells_fields,hy]
  exact h2
end
end Go.Proofs.YtmdefiphdgcijaaDoor

set_option linter.unusedVariables false
namespace Go.Proofs.YtmdefiphdgcijaaDoor
def szL{α:Type}(f:α→Nat):List α→Nat
 | []=>0
 | x::xs=>f x+szL f xs
section
variable {α:Type} (f:α→Nat)
theorem a7c(d:α):∀ (xs:List α) (k:Nat),k<xs.length→szL f (xs.take (k+1))=szL f (xs.take k)+f (xs.getD k d)
 | [],k,h=>by simp at h
 | x::xs,0,h=>by simp[szL]
 | x::xs,k+1,h=>by
  have:=a7c d xs k (by simpa using h)
  simp[szL] at this ⊢;omega
theorem a1l:∀ (xs:List α) (k:Nat),szL f (xs.take k)≤szL f xs
 | [],k=>by simp
 | x::xs,0=>by simp[szL]
 | x::xs,k+1=>by
  have:=a1l xs k
  simp[szL];omega
theorem b0k(xs:List α)(k:Nat):xs.length≤k→szL f (xs.take k)=szL f xs:=fun h=>by rw[List.take_of_length_le h]
theorem a8m(xs:List α):szL f (xs.take 0)=0:=by simp[szL]
end
noncomputable def eqB{α:Type}(a b:α):Bool := @decide (a=b) (Classical.propDecidable _)
theorem b3j{α:Type}{a b:α}(h:a=b):true=eqB a b:=by simp[eqB,h]
theorem a4w{α:Type}{a b:α}(h:a≠b):false=eqB a b:=by simp[eqB,h]
@[simp] theorem f2m{α:Type}{a b:α}:eqB a b=true↔a=b:=by simp[eqB]
@[simp] theorem f2b{α:Type}{a b:α}:eqB a b=false↔a≠b:=by simp[eqB]
@[simp] theorem f2c{α:Type}{a:α}:eqB a a=true:=by simp[eqB]
section
variable {α:Type}
theorem a2k(d:α):∀ (xs:List α) (k:Nat),k<xs.length→xs.take (k+1)=xs.take k++[xs.getD k d]
 | [],k,h=>by simp at h
 | x::xs,0,h=>by simp
 | x::xs,k+1,h=>by
  have:=a2k d xs k (by simpa using h)
  simp at this ⊢;exact this
theorem a6t(d:α)(xs ys:List α)(k:Nat)(h1:k<xs.length)(h2:k<ys.length)(h:xs.take k=ys.take k)(e:xs.getD k d=ys.getD k d):xs.take (k+1)=ys.take (k+1):=by
 rw[a2k d xs k h1,a2k d ys k h2,h,e]
theorem a3k(xs ys:List α)(k:Nat)(h1:xs.length≤k)(h2:ys.length≤k)(h:xs.take k=ys.take k):xs=ys:=by
 rwa [List.take_of_length_le h1,List.take_of_length_le h2] at h
def f2p(xs:List α)(k:Nat)(z:α):List α:=xs.take k++List.replicate (xs.length - k) z
end
section
variable {α:Type} (f:α→Nat)
end
def a1j{α:Type}(f:α→Bool):List α→Bool
 | []=>true
 | x::xs=>f x&&a1j f xs
section
variable {α:Type} (f:α→Bool)
theorem d2r:∀ (xs ys:List α),a1j f (xs++ys)=(a1j f xs&&a1j f ys)
 | [],ys=>by simp[a1j]
 | x::xs,ys=>by simp[a1j,d2r xs ys,Bool.and_assoc]
theorem a6f(d:α)(xs:List α)(k:Nat)(h:k<xs.length):a1j f (xs.take (k+1))=(a1j f (xs.take k)&&f (xs.getD k d)):=by
 rw[a2k d xs k h,d2r];simp[a1j]
theorem b3w(d:α):∀ (xs:List α) (k:Nat),k<xs.length→f (xs.getD k d)=false→a1j f xs=false
 | [],k,h,_=>by simp at h
 | x::xs,0,h,e=>by simp at e;simp[a1j,e]
 | x::xs,k+1,h,e=>by
  have:=b3w d xs k (by simpa using h) (by simpa using e)
  simp[a1j,this]
end
end Go.Proofs.YtmdefiphdgcijaaDoor

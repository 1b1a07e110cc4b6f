/- Read, Own, Map. -/
import Derived.Test.YtmdefiphdgcijaaDoorVmCore
import Derived.Laws.AppendOwn
import Derived.Laws.OwnMore
import Derived.Below
import Derived.MapKept
set_option linter.unusedVariables false
set_option linter.unusedSimpArgs false
namespace Go.Proofs.YtmdefiphdgcijaaDoor
def a1x(w:World)(b o:Nat)(cs:List Value):Prop:=∀ j v,cs[j]?=some v→w.cell? ⟨b,o+j,none⟩=some v
def D.size:D→Nat
 | .agg ds=>ds.length
 | _=>1
mutual
def Rd(w:World)(S:Nat→Prop):D→List Value→Prop
 | .int k n,cs=>cs=[.int k n]∧k.min≤n∧n≤k.max
 | .bool b,cs=>cs=[.bool b]
 | .str s,cs=>∃ x:ByteArray,cs=[.string x]∧x.data.toList=s∧x.size≤140737488355328
 | .slice _ xs,cs=>∃ a cap,cs=[.slice a xs.length cap]∧xs.length≤cap∧cap≤maxLen∧xs.length≤140737488355328∧(xs=[]∨∃ b o,a=some ⟨b,o,none⟩∧S b∧a1q w S xs b o)
 | .agg ds,cs=>a1r w S ds cs
 | .hole,cs=>∃ a n m,cs=[.slice a n m]
 | .ptr,cs=>∃ p,cs=[.pointer p]
def a1r(w:World)(S:Nat→Prop):List D→List Value→Prop
 | [],cs=>cs=[]
 | d::ds,cs=>∃ v r,cs=v::r∧Rd w S d [v]∧a1r w S ds r
def a1q(w:World)(S:Nat→Prop):List D→Nat→Nat→Prop
 | [],_,_=>True
 | d::ds,b,o=>(∃ cs,cs.length=d.size∧Rd w S d cs∧a1x w b o cs)∧a1q w S ds b (o+d.size)
end
theorem a1x.keep{w w':World}{b o:Nat}{cs:List Value}(h:a1x w b o cs)(hb:w'.heap[b]?=w.heap[b]?):a1x w' b o cs :=
 fun j v hj=>by rw[←h j v hj];exact World.cell?_of_block (a:=⟨b,o+j,none⟩) hb
mutual
theorem Rd.keep{w w':World}{S S':Nat→Prop}(hS:∀ b,S b→S' b)(hw:∀ b,S b→w'.heap[b]?=w.heap[b]?):∀ (d:D) {cs:List Value},Rd w S d cs→Rd w' S' d cs
 | .int _ _,_,h=>h
 | .bool _,_,h=>h
 | .str _,_,h=>h
 | .slice _ xs,_,h=>by
  obtain⟨a,cap,h1,h2,h3,h4,h5⟩:=h
  refine⟨a,cap,h1,h2,h3,h4,h5.imp id ?_⟩
  rintro⟨b,o,ha,hb,hr⟩
  exact⟨b,o,ha,hS b hb,a1q.keep hS hw xs b o hb hr⟩
 | .agg ds,_,h=>a1r.keep hS hw ds h
 | .hole,_,h=>h
 | .ptr,_,h=>h
theorem a1r.keep{w w':World}{S S':Nat→Prop}(hS:∀ b,S b→S' b)(hw:∀ b,S b→w'.heap[b]?=w.heap[b]?):∀ (ds:List D) {cs:List Value},a1r w S ds cs→a1r w' S' ds cs
 | [],_,h=>h
 | d::ds,_,h=>by
  obtain⟨v,r,h1,h2,h3⟩:=h
  exact⟨v,r,h1,Rd.keep hS hw d h2,a1r.keep hS hw ds h3⟩
theorem a1q.keep{w w':World}{S S':Nat→Prop}(hS:∀ b,S b→S' b)(hw:∀ b,S b→w'.heap[b]?=w.heap[b]?):∀ (ds:List D) (b o:Nat),S b→a1q w S ds b o→a1q w' S' ds b o
 | [],_,_,_,_=>trivial
 | d::ds,b,o,hb,h=>by
  obtain⟨⟨cs,h1,h2,h3⟩,h4⟩:=h
  exact⟨⟨cs,h1,Rd.keep hS hw d h2,h3.keep (hw b hb)⟩,a1q.keep hS hw ds b _ hb h4⟩
end
theorem a1r.length{w:World}{S:Nat→Prop}:∀ (ds:List D) {cs:List Value},a1r w S ds cs→cs.length=ds.length
 | [],_,h=>by rw[show _=[] from h];rfl
 | d::ds,_,h=>by
  obtain⟨v,r,rfl,_,h3⟩:=h
  simp[a1r.length ds h3]
theorem Rd.length{w:World}{S:Nat→Prop}(d:D){cs:List Value}(h:Rd w S d cs):cs.length=d.size:=by
 cases d with
 | int k n=>rw[h.1];rfl
 | bool b=>rw[show cs=_ from h];rfl
 | str s=>obtain⟨x,h,_⟩:=h;rw[h];rfl
 | slice n xs=>obtain⟨a,cap,h,_⟩:=h;rw[h];rfl
 | agg ds=>exact a1r.length ds h
 | hole=>obtain⟨a,n,m,h⟩:=h;rw[h];rfl
 | ptr=>obtain⟨p,h⟩:=h;rw[h];rfl
theorem Ty.size_toD(t:Ty)(x:t.den):(t.toD x).size=t.size:=by
 cases t with
 | st s=>simp[Ty.toD,a0h.toD_cells,D.size,Ty.size,a0h.cells_length]
 | mv t=>cases (show Option (List t.den) from x)<;>rfl
 | _=>rfl
theorem a1q.at_{w:World}{S:Nat→Prop}{n:Nat}:∀ (ds:List D) (b o:Nat),a1q w S ds b o→(∀ d∈ds,d.size=n)→∀ i d,ds[i]?=some d →
  ∃ cs,cs.length=n∧Rd w S d cs∧a1x w b (o+i * n) cs
 | [],_,_,_,_,i,d,h=>by simp at h
 | e::ds,b,o,h,hn,0,d,hi=>by
  obtain⟨⟨cs,h1,h2,h3⟩,_⟩:=h
  simp at hi
  subst hi
  exact⟨cs,by rw[h1];exact hn _ (by simp),h2,by simpa using h3⟩
 | e::ds,b,o,h,hn,i+1,d,hi=>by
  obtain⟨_,h4⟩:=h
  rw[hn e (by simp)] at h4
  obtain⟨cs,h1,h2,h3⟩:=a1q.at_ ds b (o+n) h4 (fun d hd=>hn d (by simp[hd])) i d (by simpa using hi)
  exact⟨cs,h1,h2,by rw[show o+(i+1) * n=o+n+i * n by rw[Nat.add_mul];omega];exact h3⟩
theorem a1q.drop_{w:World}{S:Nat→Prop}{n:Nat}:∀ (k:Nat) (ds:List D) (b o:Nat),a1q w S ds b o→(∀ d∈ds,d.size=n)→a1q w S (ds.drop k) b (o+k * n)
 | 0,ds,b,o,h,_=>by simpa using h
 | k+1,[],b,o,h,_=>by simp[a1q]
 | k+1,d::ds,b,o,h,hn=>by
  have:=a1q.drop_ k ds b (o+n) (by have:=h.2;rwa [hn d (by simp)] at this) (fun d hd=>hn d (by simp[hd]))
  rw[show o+(k+1) * n=o+n+k * n by rw[Nat.add_mul];omega]
  exact this
theorem a1q.take_{w:World}{S:Nat→Prop}:∀ (k:Nat) (ds:List D) (b o:Nat),a1q w S ds b o→a1q w S (ds.take k) b o
 | 0,ds,b,o,h=>by simp[a1q]
 | k+1,[],b,o,h=>by simp[a1q]
 | k+1,d::ds,b,o,h=>⟨h.1,a1q.take_ k ds b _ h.2⟩
def RdL(w:World)(S:Nat→Prop):List D→List Value→Prop
 | [],l=>l=[]
 | d::ds,l=>∃ c r,l=c++r∧Rd w S d c∧RdL w S ds r
theorem RdL.keep{w w':World}{S S':Nat→Prop}(hS:∀ b,S b→S' b)(hw:∀ b,S b→w'.heap[b]?=w.heap[b]?):∀ (ds:List D) {l:List Value},RdL w S ds l→RdL w' S' ds l
 | [],_,h=>h
 | d::ds,_,h=>by
  obtain⟨c,r,h1,h2,h3⟩:=h
  exact⟨c,r,h1,Rd.keep hS hw d h2,RdL.keep hS hw ds h3⟩
theorem RdL.append{w:World}{S:Nat→Prop}:∀ (ds es:List D) {l m:List Value},RdL w S ds l→RdL w S es m→RdL w S (ds++es) (l++m)
 | [],_,_,_,h,k=>by rw[show _=[] from h];simpa using k
 | d::ds,es,_,m,h,k=>by
  obtain⟨c,r,rfl,h2,h3⟩:=h
  exact⟨c,r++m,by simp,h2,RdL.append ds es h3 k⟩
theorem RdL.length{w:World}{S:Nat→Prop}{n:Nat}:∀ (ds:List D) {l:List Value},RdL w S ds l→(∀ d∈ds,d.size=n)→l.length=ds.length * n
 | [],_,h,_=>by rw[show _=[] from h];simp
 | d::ds,_,h,hn=>by
  obtain⟨c,r,rfl,h2,h3⟩:=h
  rw[List.length_append,Rd.length d h2,hn d (by simp),RdL.length ds h3 (fun d hd=>hn d (by simp[hd])),List.length_cons,Nat.add_mul]
  omega
theorem RdL.row{w:World}{S:Nat→Prop}:∀ (ds:List D) {l:List Value} (b o:Nat),RdL w S ds l→a1x w b o l→a1q w S ds b o
 | [],_,_,_,_,_=>trivial
 | d::ds,_,b,o,h,hc=>by
  obtain⟨c,r,rfl,h2,h3⟩:=h
  refine⟨⟨c,Rd.length d h2,h2,fun j v hj=>hc j v ?_⟩,RdL.row ds b _ h3 fun j v hj=>?_⟩
  ·rw[List.getElem?_append_left]
   ·exact hj
   ·exact (List.getElem?_eq_some_iff.1 hj).1
  ·have:=hc (c.length+j) v (by rw[List.getElem?_append_right (by omega)];simpa using hj)
   rwa [Rd.length d h2,←Nat.add_assoc] at this
theorem a1q.cells{w:World}{S:Nat→Prop}:∀ (ds:List D) (b o:Nat),a1q w S ds b o→∃ l,RdL w S ds l∧a1x w b o l
 | [],_,_,_=>⟨[],rfl,fun j v h=>by simp at h⟩
 | d::ds,b,o,h=>by
  obtain⟨⟨c,h1,h2,h3⟩,h4⟩:=h
  obtain⟨r,h5,h6⟩:=a1q.cells ds b _ h4
  refine⟨c++r,⟨c,r,rfl,h2,h5⟩,fun j v hj=>?_⟩
  rcases Nat.lt_or_ge j c.length with hlt|hge
  ·exact h3 j v (by rwa [List.getElem?_append_left hlt] at hj)
  ·rw[List.getElem?_append_right hge] at hj
   have:=h6 (j - c.length) v hj
   rwa [←h1,show o+c.length+(j - c.length)=o+j by omega] at this
theorem RdL.at_{w:World}{S:Nat→Prop}{n:Nat}:∀ (ds:List D) {l:List Value},RdL w S ds l→(∀ d∈ds,d.size=n)→∀ i d,ds[i]?=some d→Rd w S d ((l.drop (i * n)).take n)
 | [],_,_,_,i,d,h=>by simp at h
 | e::ds,_,h,hn,0,d,hi=>by
  obtain⟨c,r,rfl,h2,h3⟩:=h
  simp at hi
  subst hi
  have:c.length=n:=by rw[Rd.length _ h2];exact hn _ (by simp)
  simpa [←this] using h2
 | e::ds,_,h,hn,i+1,d,hi=>by
  obtain⟨c,r,rfl,h2,h3⟩:=h
  have hc:c.length=n:=by rw[Rd.length _ h2];exact hn _ (by simp)
  have:=RdL.at_ ds h3 (fun d hd=>hn d (by simp[hd])) i d (by simpa using hi)
  have h0:List.drop (n+i * n) c=[]:=List.drop_eq_nil_of_le (by omega)
  rw[show (i+1) * n=n+i * n by rw[Nat.add_mul];omega,List.drop_append,h0,List.nil_append,show n+i * n - c.length=i * n by omega]
  exact this
def f2o:Value→Bool
 | .int .. | .bool _ | .string _ | .slice .. | .pointer _=>true
 | _=>false
def D.leaf:D→Bool
 | .agg _=>false
 | _=>true
theorem Rd.leafV{w:World}{S:Nat→Prop}{d:D}(hd:d.leaf=true){cs:List Value}(h:Rd w S d cs):∃ v,cs=[v]∧YtmdefiphdgcijaaDoor.f2o v=true:=by
 cases d with
 | int k n=>exact⟨_,h.1,rfl⟩
 | bool b=>exact⟨_,h,rfl⟩
 | str s=>obtain⟨x,h,_⟩:=h;exact⟨_,h,rfl⟩
 | slice n xs=>obtain⟨a,cap,h,_⟩:=h;exact⟨_,h,rfl⟩
 | agg ds=>cases hd
 | hole=>obtain⟨a,n,m,h⟩:=h;exact⟨_,h,rfl⟩
 | ptr=>obtain⟨p,h⟩:=h;exact⟨_,h,rfl⟩
theorem b8w{v:Value}(h:YtmdefiphdgcijaaDoor.f2o v=true):v.oneCell'=true:=by cases v<;>first|rfl|cases h
theorem d2z{v:Value}(h:YtmdefiphdgcijaaDoor.f2o v=true):v.cells = #[v]:=by cases v<;>first|rfl|cases h
theorem d4c{α:Type}(n:Nat)(f:α→D)(o:Option (List α)):(mvD n f o).leaf=true:=by cases o<;>rfl
theorem a0h.leaf_cells(s:a0h)(x:s.den):∀ v∈s.cells x,v.toD.leaf=true:=by
 cases s<;>simp[a0h.cells,TV.toD,Ty.toD,D.leaf]<;>exact d4c _ _ _
end Go.Proofs.YtmdefiphdgcijaaDoor

set_option linter.unusedVariables false
set_option linter.unusedSimpArgs false
namespace Go.Proofs.YtmdefiphdgcijaaDoor
mutual
def Ow(w:World):D→List Value→List Nat→Prop
 | .int k n,cs,fp=>(cs=[.int k n]∧k.min≤n∧n≤k.max)∧fp=[]
 | .bool b,cs,fp=>cs=[.bool b]∧fp=[]
 | .str s,cs,fp=>(∃ x:ByteArray,cs=[.string x]∧x.data.toList=s∧x.size≤140737488355328)∧fp=[]
 | .slice n xs,cs,fp=>∃ a cap,cs=[.slice a xs.length cap]∧xs.length≤cap∧cap≤maxLen∧xs.length≤140737488355328 ∧
   ((xs=[]∧(a=none∧cap=0)∧fp=[])∨∃ b f l t,a=some ⟨b,0,none⟩∧fp=b::f∧w.heap[b]?=some (.cells l.toArray t (0,0))∧l.length=cap * n∧a0x w xs l f)
 | .agg ds,cs,fp=>a1t w ds cs fp
 | .hole,cs,fp=>(∃ a n m,cs=[.slice a n m])∧fp=[]
 | .ptr,cs,fp=>(∃ p,cs=[.pointer p])∧fp=[]
def a1t(w:World):List D→List Value→List Nat→Prop
 | [],cs,fp=>cs=[]∧fp=[]
 | d::ds,cs,fp=>∃ v r f1 f2,cs=v::r∧fp=f1++f2∧Ow w d [v] f1∧a1t w ds r f2
def a0x(w:World):List D→List Value→List Nat→Prop
 | [],_,fp=>fp=[]
 | d::ds,l,fp=>∃ c r f1 f2,l=c++r∧fp=f1++f2∧Ow w d c f1∧a0x w ds r f2
end
theorem a1t.length{w:World}:∀ (ds:List D) {cs:List Value} {fp:List Nat},a1t w ds cs fp→cs.length=ds.length
 | [],_,_,h=>by rw[h.1];rfl
 | d::ds,_,_,h=>by
  obtain⟨v,r,f1,f2,rfl,_,_,h4⟩:=h
  simp[a1t.length ds h4]
theorem Ow.length{w:World}(d:D){cs:List Value}{fp:List Nat}(h:Ow w d cs fp):cs.length=d.size:=by
 cases d with
 | int k n=>rw[h.1.1];rfl
 | bool b=>rw[h.1];rfl
 | str s=>obtain⟨⟨x,h,_⟩,_⟩:=h;rw[h];rfl
 | slice n xs=>obtain⟨a,cap,h,_⟩:=h;rw[h];rfl
 | agg ds=>exact a1t.length ds h
 | hole=>obtain⟨⟨a,n,m,h⟩,_⟩:=h;rw[h];rfl
 | ptr=>obtain⟨⟨p,h⟩,_⟩:=h;rw[h];rfl
theorem c5y{w:World}{b:Nat}{p c r:List Value}{t:TypeId}(h:w.heap[b]?=some (.cells (p++(c++r)).toArray t (0,0))):a1x w b p.length c:=by
 intro j v hj
 have hl:j<c.length:=(List.getElem?_eq_some_iff.1 hj).1
 have h2:(p++(c++r))[p.length+j]?=some v:=by
  rw[List.getElem?_append_right (by omega),Nat.add_sub_cancel_left,List.getElem?_append_left hl];exact hj
 simp[World.cell?,h,h2]
mutual
theorem Ow.rd{w:World}{S:Nat→Prop}:∀ (d:D) {cs:List Value} {fp:List Nat},Ow w d cs fp→(∀ b∈fp,S b)→Rd w S d cs
 | .int _ _,_,_,h,_=>h.1
 | .bool _,_,_,h,_=>h.1
 | .str _,_,_,h,_=>h.1
 | .slice n xs,_,_,h,hS=>by
  obtain⟨a,cap,h1,h2,h3,h4,h5⟩:=h
  refine⟨a,cap,h1,h2,h3,h4,h5.imp And.left ?_⟩
  rintro⟨b,f,l,t,rfl,rfl,hb,_,hr⟩
  exact⟨b,0,rfl,hS b (by simp),a0x.rd xs (p:=[]) (by simpa using hb) hr (fun b hb=>hS b (by simp[hb]))⟩
 | .agg ds,_,_,h,hS=>a1t.rd ds h hS
 | .hole,_,_,h,_=>h.1
 | .ptr,_,_,h,_=>h.1
theorem a1t.rd{w:World}{S:Nat→Prop}:∀ (ds:List D) {cs:List Value} {fp:List Nat},a1t w ds cs fp→(∀ b∈fp,S b)→a1r w S ds cs
 | [],_,_,h,_=>h.1
 | d::ds,_,_,h,hS=>by
  obtain⟨v,r,f1,f2,h1,rfl,h3,h4⟩:=h
  exact⟨v,r,h1,Ow.rd d h3 fun b hb=>hS b (by simp[hb]),a1t.rd ds h4 fun b hb=>hS b (by simp[hb])⟩
theorem a0x.rd{w:World}{S:Nat→Prop}{b:Nat}{t:TypeId}:∀ (ds:List D) {p l:List Value} {fp:List Nat},w.heap[b]?=some (.cells (p++l).toArray t (0,0))→a0x w ds l fp→(∀ b∈fp,S b)→a1q w S ds b p.length
 | [],_,_,_,_,_,_=>trivial
 | d::ds,p,_,_,hb,h,hS=>by
  obtain⟨c,r,f1,f2,rfl,rfl,h3,h4⟩:=h
  have hl:=Ow.length d h3
  refine⟨⟨c,hl,Ow.rd d h3 fun b hb=>hS b (by simp[hb]),c5y hb⟩,?_⟩
  have:=a0x.rd ds (p:=p++c) (l:=r) (by simpa using hb) h4 (fun b hb=>hS b (by simp[hb]))
  rw[←hl]
  simpa using this
end
mutual
theorem Ow.keep{w w':World}:∀ (d:D) {cs:List Value} {fp:List Nat},Ow w d cs fp→(∀ b∈fp,w'.heap[b]?=w.heap[b]?)→Ow w' d cs fp
 | .int _ _,_,_,h,_=>h
 | .bool _,_,_,h,_=>h
 | .str _,_,_,h,_=>h
 | .slice n xs,_,_,h,hw=>by
  obtain⟨a,cap,h1,h2,h3,h4,h5⟩:=h
  refine⟨a,cap,h1,h2,h3,h4,h5.imp id ?_⟩
  rintro⟨b,f,l,t,rfl,rfl,hb,hc,hr⟩
  exact⟨b,f,l,t,rfl,rfl,by rw[hw b (by simp)];exact hb,hc,a0x.keep xs hr fun b hb=>hw b (by simp[hb])⟩
 | .agg ds,_,_,h,hw=>a1t.keep ds h hw
 | .hole,_,_,h,_=>h
 | .ptr,_,_,h,_=>h
theorem a1t.keep{w w':World}:∀ (ds:List D) {cs:List Value} {fp:List Nat},a1t w ds cs fp→(∀ b∈fp,w'.heap[b]?=w.heap[b]?)→a1t w' ds cs fp
 | [],_,_,h,_=>h
 | d::ds,_,_,h,hw=>by
  obtain⟨v,r,f1,f2,h1,rfl,h3,h4⟩:=h
  exact⟨v,r,f1,f2,h1,rfl,Ow.keep d h3 fun b hb=>hw b (by simp[hb]),a1t.keep ds h4 fun b hb=>hw b (by simp[hb])⟩
theorem a0x.keep{w w':World}:∀ (ds:List D) {l:List Value} {fp:List Nat},a0x w ds l fp→(∀ b∈fp,w'.heap[b]?=w.heap[b]?)→a0x w' ds l fp
 | [],_,_,h,_=>h
 | d::ds,_,_,h,hw=>by
  obtain⟨c,r,f1,f2,h1,rfl,h3,h4⟩:=h
  exact⟨c,r,f1,f2,h1,rfl,Ow.keep d h3 fun b hb=>hw b (by simp[hb]),a0x.keep ds h4 fun b hb=>hw b (by simp[hb])⟩
end
mutual
def D.light:D→Bool
 | .slice .. => false
 | .agg ds=>D.lights ds
 | _=>true
def D.lights:List D→Bool
 | []=>true
 | d::ds=>d.light&&D.lights ds
end
mutual
theorem Ow.of_light{w:World}{S:Nat→Prop}:∀ (d:D) {cs:List Value},d.light=true→Rd w S d cs→Ow w d cs []
 | .int _ _,_,_,h=>⟨h,rfl⟩
 | .bool _,_,_,h=>⟨h,rfl⟩
 | .str _,_,_,h=>⟨h,rfl⟩
 | .slice n xs,_,hl,h=>by
  obtain⟨a,cap,h1,h2,h3,h4,h5⟩:=h
  cases hl
 | .agg ds,_,hl,h=>a1t.of_light ds hl h
 | .hole,_,_,h=>⟨h,rfl⟩
 | .ptr,_,_,h=>⟨h,rfl⟩
theorem a1t.of_light{w:World}{S:Nat→Prop}:∀ (ds:List D) {cs:List Value},D.lights ds=true→a1r w S ds cs→a1t w ds cs []
 | [],_,_,h=>⟨h,rfl⟩
 | d::ds,_,hl,h=>by
  obtain⟨v,r,h1,h2,h3⟩:=h
  simp only[D.lights,Bool.and_eq_true] at hl
  exact⟨v,r,[],[],h1,rfl,Ow.of_light d hl.1 h2,a1t.of_light ds hl.2 h3⟩
end
theorem a0x.of_light{w:World}{S:Nat→Prop}:∀ (ds:List D) {l m:List Value},(∀ d∈ds,d.light=true)→RdL w S ds l→a0x w ds (l++m) []
 | [],_,_,_,_=>rfl
 | d::ds,_,m,hl,h=>by
  obtain⟨c,r,rfl,h2,h3⟩:=h
  exact⟨c,r++m,[],[],by simp,rfl,Ow.of_light d (hl d (by simp)) h2,a0x.of_light ds (fun d hd=>hl d (by simp[hd])) h3⟩
theorem c9d{α:Type}(c r:List α)(k:Nat):(c++r).drop (c.length+k)=r.drop k:=by
 rw[←List.drop_drop,List.drop_left]
theorem c1e{α:Type}(c r:List α)(k:Nat):(c++r).take (c.length+k)=c++r.take k:=by
 rw[List.take_append,List.take_of_length_le (by omega),Nat.add_sub_cancel_left]
theorem a0x.split{w:World}{n:Nat}:∀ (ds:List D) {l:List Value} {fp:List Nat} (i:Nat) (d:D),a0x w ds l fp→(∀ d∈ds,d.size=n)→ds[i]?=some d →
  ∃ f0 f1 f2,fp=f0++f1++f2∧i * n+n≤l.length∧Ow w d ((l.drop (i * n)).take n) f1 ∧
   ∀ (w':World) (d':D) (c':List Value) (f1':List Nat),(∀ b∈f0++f2,w'.heap[b]?=w.heap[b]?)→c'.length=n→Ow w' d' c' f1'→a0x w' (ds.set i d') (l.take (i * n)++c'++l.drop (i * n+n)) (f0++f1'++f2)
 | [],_,_,_,_,_,_,h=>by simp at h
 | e::ds,l,fp,0,d,h,hn,hi=>by
  obtain⟨c,r,f1,f2,rfl,rfl,h3,h4⟩:=h
  simp at hi
  subst hi
  have hc:c.length=n:=by rw[Ow.length _ h3];exact hn _ (by simp)
  refine⟨[],f1,f2,by simp,by simp;omega,?_,fun w' d' c' f1' hw hc' hd'=>?_⟩
  ·simp only[Nat.zero_mul,List.drop_zero];rw[←hc,List.take_left];exact h3
  ·simp only[Nat.zero_mul,List.take_zero,List.nil_append,Nat.zero_add,List.set_cons_zero]
   rw[←hc,List.drop_left]
   exact⟨c',r,f1',f2,rfl,rfl,hd',a0x.keep ds h4 fun b hb=>hw b (by simp[hb])⟩
 | e::ds,l,fp,i+1,d,h,hn,hi=>by
  obtain⟨c,r,g1,g2,rfl,rfl,h3,h4⟩:=h
  have hc:c.length=n:=by rw[Ow.length _ h3];exact hn _ (by simp)
  obtain⟨f0,f1,f2,rfl,hlen,k1,k2⟩:=a0x.split ds i d h4 (fun d hd=>hn d (by simp[hd])) (by simpa using hi)
  have e1:(i+1) * n=c.length+i * n:=by rw[hc,Nat.add_mul];omega
  have e2:(i+1) * n+n=c.length+(i * n+n):=by omega
  refine⟨g1++f0,f1,f2,by simp,by simp;omega,?_,fun w' d' c' f1' hw hc' hd'=>?_⟩
  ·rw[e1,c9d];exact k1
  ·rw[e1,show c.length+i * n+n=c.length+(i * n+n) by omega,c1e,c9d]
   have:=k2 w' d' c' f1' (fun b hb=>hw b (by simp at hb ⊢;rcases hb with hb|hb<;>simp[hb])) hc' hd'
   rw[show (e::ds).set (i+1) d'=e::ds.set i d' from rfl]
   exact⟨c,r.take (i * n)++c'++r.drop (i * n+n),g1,f0++f1'++f2,by simp,by simp,Ow.keep e h3 fun b hb=>hw b (by simp[hb]),this⟩
end Go.Proofs.YtmdefiphdgcijaaDoor

set_option linter.unusedVariables false
set_option linter.unusedSimpArgs false
namespace Go.Proofs.YtmdefiphdgcijaaDoor
open Go.MapKept
def ScR(τ:Ty)(x:τ.den)(v:Value):Prop:=∀ (w:World) (S:Nat→Prop),Rd w S (τ.toD x) [v]
theorem ScR.of{τ:Ty}(hτ:τ.key=true){x:τ.den}{v:Value}{w:World}{S:Nat→Prop}(h:Rd w S (τ.toD x) [v]):ScR τ x v:=by
 intro w' S'
 cases τ with
 | int k=>exact h
 | bool=>exact h
 | str=>exact h
 | _=>cases hτ
theorem ScR.val{τ:Ty}(hτ:τ.key=true){x y:τ.den}{v:Value}(h:ScR τ x v)(k:ScR τ y v)(w:World):x=y:=by
 have h:=h w (fun _=>False)
 have k:=k w (fun _=>False)
 cases τ with
 | int q =>
  simp only[Ty.toD,Rd,List.cons.injEq,and_true] at h k
  obtain⟨rfl,_⟩:=h
  exact (by simpa using k.1)
 | bool =>
  simp only[Ty.toD,Rd,List.cons.injEq,and_true] at h k
  subst h
  simpa using k
 | str =>
  obtain⟨a,h1,h2,_⟩:=h
  obtain⟨b,k1,k2,_⟩:=k
  simp only[List.cons.injEq,and_true] at h1 k1
  subst h1
  simp only[Value.string.injEq] at k1
  subst k1
  exact h2.symm.trans k2
 | _=>cases hτ
theorem ScR.inj{τ:Ty}(hτ:τ.key=true){x:τ.den}{v u:Value}(h:ScR τ x v)(k:ScR τ x u)(w:World):v=u:=by
 have h:=h w (fun _=>False)
 have k:=k w (fun _=>False)
 cases τ with
 | int q =>
  simp only[Ty.toD,Rd,List.cons.injEq,and_true] at h k
  exact h.1.trans k.1.symm
 | bool =>
  simp only[Ty.toD,Rd,List.cons.injEq,and_true] at h k
  exact h.trans k.symm
 | str =>
  obtain⟨⟨⟨a⟩⟩,h1,h2,_⟩:=h
  obtain⟨⟨⟨b⟩⟩,k1,k2,_⟩:=k
  simp only[List.cons.injEq,and_true] at h1 k1
  simp only at h2 k2
  rw[h1,k1,h2,k2]
 | _=>cases hτ
def c0c:Ty→TypeDesc
 | .int k => .int k
 | .str => .string
 | _ => .bool
theorem ScR.isKey{τ:Ty}(hτ:τ.key=true){x:τ.den}{v:Value}(h:ScR τ x v)(w:World):IsKey (c0c τ) v:=by
 have h:=h w (fun _=>False)
 cases τ with
 | int q =>
  simp only[Ty.toD,Rd,List.cons.injEq,and_true] at h
  obtain⟨rfl,_⟩:=h
  rfl
 | bool =>
  simp only[Ty.toD,Rd,List.cons.injEq,and_true] at h
  subst h
  trivial
 | str =>
  obtain⟨a,h1,h2,_⟩:=h
  simp only[List.cons.injEq,and_true] at h1
  subst h1
  trivial
 | _=>cases hτ
structure c5q(m:MV)(es:Array MapEntry):Prop where
 sk:m.κ.key=true
 se:m.ε.key=true
 len:es.size=m.n
 small:m.n≤1000000000
 nd:es.toList.Pairwise fun x y=>x.key≠y.key
 ent:∀ e∈es.toList,∃ k v,ScR m.κ k e.key∧ScR m.ε v e.val∧m.f k=some v
 all:∀ k v,m.f k=some v→∃ e∈es.toList,ScR m.κ k e.key
section
variable {P:Program} {w:World} {m:MV} {es:Array MapEntry} {clock b:Nat} {T kT eT:TypeId}
theorem c5q.found(h:c5q m es){k:m.κ.den}{v:Value}(hv:ScR m.κ k v)(w:World) :
  (Instr.findNow (c0c m.κ) v es.toList 0=some none∧(∀ e∈es.toList,e.key≠v)∧m.f k=none) ∨
  ∃ j e x,Instr.findNow (c0c m.κ) v es.toList 0=some (some (j,e.val))∧es.toList[j]?=some e∧e.key=v∧m.f k=some x∧ScR m.ε x e.val:=by
 have hk:∀ e∈es.toList,IsKey (c0c m.κ) e.key:=fun e he=>by
  obtain⟨k',v',h1,_⟩:=h.ent e he
  exact h1.isKey h.sk w
 rcases findNow_spec (hv.isKey h.sk w) es.toList 0 hk with ⟨h1,h2⟩|⟨j,e,h1,h2,h3⟩
 ·refine .inl ⟨h1,h2,?_⟩
  cases hf:m.f k with
  | none=>rfl
  | some x =>
   obtain⟨e,he,hke⟩:=h.all k x hf
   exact absurd (hke.inj h.sk hv w) (h2 e he)
 ·obtain⟨k',x,k1,k2,k3⟩:=h.ent e (List.mem_of_getElem? h2)
  have:k'=k:=k1.val h.sk (h3 ▸ hv) w
  subst this
  exact .inr ⟨j,e,x,by simpa using h1,h2,h3,k3,k2⟩
theorem c5q.look(h:c5q m es)(hT:P.underlying T=some (.map kT eT))(hk:P.underlying kT=some (c0c m.κ))(hb:w.heap[b]?=some (.map es clock)){z:Value}(hz:(zeroValue eT).run P w = .ok z w)(hzr:ScR m.ε m.ε.zero z)
  {k:m.κ.den} {v:Value} (hv:ScR m.κ k v) (c:Bool):∃ u,ScR m.ε ((m.f k).getD m.ε.zero) u∧(Instr.lookup T (.map (some b)) v c).run P w = .ok (if c then .tuple #[u, .bool (m.f k).isSome] else u) w:=by
 rcases h.found hv w with ⟨h1,h2,h3⟩|⟨j,e,x,h1,h2,h3,h4,h5⟩
 ·refine⟨z,by rw[h3];exact hzr,?_⟩
  rw[h3]
  simp[Instr.lookup,run_underlying hT,MapKept.run_getObj_map hb,run_checkKey hk (hv.isKey h.sk w),run_findKey hk h1,hz,Result.andThen]
 ·refine⟨e.val,by rw[h4];exact h5,?_⟩
  rw[h4]
  simp[Instr.lookup,run_underlying hT,MapKept.run_getObj_map hb,run_checkKey hk (hv.isKey h.sk w),run_findKey hk h1,Result.andThen]
theorem d8y{α β:Type}(f:α→Option β)(k:α)(v:β):c3e f k v k=some v:=by simp[c3e]
theorem b8z{α β:Type}(f:α→Option β)(k:α)(v:β){x:α}(h:x≠k):c3e f k v x=f x:=by simp[c3e,h]
theorem d0l{α:Type}{R:α→α→Prop}{a b:α}:∀ {l:List α} {j:Nat},l.Pairwise R→l[j]?=some a→(∀ x,R a x→R b x)→(∀ x,R x a→R x b)→(l.set j b).Pairwise R
 | [],j,h,hj,h1,h2=>by simp at hj
 | y::ys,0,h,hj,h1,h2=>by
  simp only[List.getElem?_cons_zero,Option.some.injEq] at hj
  subst hj
  obtain⟨k1,k2⟩:=List.pairwise_cons.1 h
  exact List.pairwise_cons.2 ⟨fun x hx=>h1 x (k1 x hx),k2⟩
 | y::ys,j+1,h,hj,h1,h2=>by
  obtain⟨k1,k2⟩:=List.pairwise_cons.1 h
  simp only[List.getElem?_cons_succ] at hj
  refine List.pairwise_cons.2 ⟨fun x hx=>?_,d0l k2 hj h1 h2⟩
  rcases List.mem_or_eq_of_mem_set hx with hx|rfl
  ·exact k1 x hx
  ·exact h2 y (k1 a (List.mem_of_getElem? hj))
theorem c5q.store(h:c5q m es)(hT:P.underlying T=some (.map kT eT))(hk:P.underlying kT=some (c0c m.κ))(hb:w.heap[b]?=some (.map es clock))
  {k:m.κ.den} {v:Value} (hv:ScR m.κ k v) {x:m.ε.den} {u:Value} (hu:ScR m.ε x u) (hn:m.n<1000000000) :
  ∃ es' clock',(Instr.mapUpdate T (.map (some b)) v u).run P w = .ok () { w with heap:=w.heap.setIfInBounds b (.map es' clock') }∧c5q ⟨m.κ,m.ε,c3e m.f k x,d0c (m.f k) m.n⟩ es':=by
 have hK:=hv.isKey h.sk w
 rcases h.found hv w with ⟨h1,h2,h3⟩|⟨j,e,y,h1,h2,h3,h4,h5⟩
 ·refine⟨es.push ⟨v,u,clock⟩,clock+1,?_,?_⟩
  ·simp[Instr.mapUpdate,run_underlying hT,MapKept.run_getObj_map hb,run_checkKey hk hK,run_findKey hk h1,run_setObj_map _ hb,Result.andThen]
  ·refine⟨h.sk,h.se,?_,by simp[d0c,h3];omega,?_,?_,?_⟩
   ·simp[d0c,h3,h.len]
   ·simp only[Array.toList_push]
    refine List.pairwise_append.2 ⟨h.nd,by simp,fun a ha b' hb'=>?_⟩
    simp only[List.mem_singleton] at hb'
    subst hb'
    exact h2 a ha
   ·intro e he
    simp only[Array.toList_push,List.mem_append,List.mem_singleton] at he
    rcases he with he|rfl
    ·obtain⟨k',v',k1,k2,k3⟩:=h.ent e he
     refine⟨k',v',k1,k2,?_⟩
     show c3e m.f k x k'=some v'
     rw[b8z _ _ _ (fun e1=>h2 e he ((e1 ▸ k1).inj h.sk hv w))]
     exact k3
    ·exact⟨k,x,hv,hu,d8y _ _ _⟩
   ·intro k' v' hf
    by_cases hkk:k'=k
    ·exact⟨⟨v,u,clock⟩,by simp,by rw[hkk];exact hv⟩
    ·have hf':m.f k'=some v':=by rw[←b8z m.f k x hkk];exact hf
     obtain⟨e,he,hke⟩:=h.all k' v' hf'
     exact⟨e,by simp only[Array.toList_push,List.mem_append];exact .inl he,hke⟩
 ·have hj:es[j]?=some e:=by simpa using h2
  have hlist:(es.modify j (fun e'=>{ e' with key:=v,val:=u })).toList=es.toList.set j { e with key:=v,val:=u }:=by
   rw[Array.toList_modify]
   apply List.ext_getElem?
   intro i
   simp only[List.getElem?_modify,List.getElem?_set]
   by_cases hij:j=i
   ·subst hij
    have hl:=(List.getElem?_eq_some_iff.1 h2).1
    simp only[if_pos,if_pos hl]
    rw[h2]
    rfl
   ·simp[hij]
  refine⟨es.modify j (fun e'=>{ e' with key:=v,val:=u }),clock,?_,?_⟩
  ·simp[Instr.mapUpdate,run_underlying hT,MapKept.run_getObj_map hb,run_checkKey hk hK,run_findKey hk h1,hj,h3,run_keyThatStays hK,run_setObj_map _ hb,Result.andThen]
  ·have oth:∀ x'∈es.toList.set j { e with key:=v,val:=u },x'={ e with key:=v,val:=u }∨(x'∈es.toList∧x'.key≠v):=by
    intro x' hx
    obtain⟨i,hi,ex⟩:=List.getElem_of_mem hx
    rw[List.getElem_set] at ex
    split at ex
    ·exact .inl ex.symm
    ·rename_i hne
     have hi':i<es.toList.length:=by simpa using hi
     refine .inr ⟨ex ▸ List.getElem_mem hi',fun hxv=>?_⟩
     have hjl:j<es.toList.length:=(List.getElem?_eq_some_iff.1 h2).1
     have hje:es.toList[j]=e:=(List.getElem?_eq_some_iff.1 h2).2
     have hpw:=List.pairwise_iff_getElem.1 h.nd
     rcases Nat.lt_or_gt_of_ne hne with hl|hl
     ·exact hpw j i hjl hi' hl (by rw[hje,ex,h3,hxv])
     ·exact hpw i j hi' hjl hl (by rw[hje,ex,h3,hxv])
   refine⟨h.sk,h.se,?_,by simp[d0c,h4];omega,?_,?_,?_⟩
   ·simp[d0c,h4,h.len]
   ·rw[hlist]
    exact d0l h.nd h2 (fun x' hx=>by rw[←h3];exact hx) (fun x' hx=>by rw[←h3];exact hx)
   ·intro e' he'
    rw[hlist] at he'
    rcases oth e' he' with rfl|⟨he,hne⟩
    ·exact⟨k,x,hv,hu,d8y _ _ _⟩
    ·obtain⟨k',v',k1,k2,k3⟩:=h.ent e' he
     refine⟨k',v',k1,k2,?_⟩
     show c3e m.f k x k'=some v'
     rw[b8z _ _ _ (fun e1=>hne ((e1 ▸ k1).inj h.sk hv w))]
     exact k3
   ·intro k' v' hf
    by_cases hkk:k'=k
    ·refine⟨{ e with key:=v,val:=u },?_,(show k'=k from hkk).symm ▸ hv⟩
     rw[hlist]
     exact List.mem_iff_getElem.2 ⟨j,by simpa using (List.getElem?_eq_some_iff.1 h2).1,by simp⟩
    ·have hf':m.f k'=some v':=by rw[←b8z m.f k x hkk];exact hf
     obtain⟨e',he',hke⟩:=h.all k' v' hf'
     refine⟨e',?_,hke⟩
     rw[hlist]
     obtain⟨i,hi,ex⟩:=List.getElem_of_mem he'
     have hij:j≠i:=by
      intro e1
      subst e1
      have hje:es.toList[j]=e:=(List.getElem?_eq_some_iff.1 h2).2
      have:e'=e:=ex ▸ hje
      subst this
      exact hkk ((h3 ▸ hke).val h.sk hv w)
     exact List.mem_iff_getElem.2 ⟨i,by simpa using hi,by rw[List.getElem_set_ne hij];exact ex⟩
end
end Go.Proofs.YtmdefiphdgcijaaDoor

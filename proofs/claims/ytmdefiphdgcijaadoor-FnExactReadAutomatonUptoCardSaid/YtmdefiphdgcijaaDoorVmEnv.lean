/- The tables of types and contracts, and what they have to agree with. -/
import Derived.Test.YtmdefiphdgcijaaDoorVmInv
import Derived.Laws.Cells
import Derived.Laws.Slices
import Derived.Laws.Strings
import Derived.Maps.AppendAt
set_option linter.unusedVariables false
set_option linter.unusedSimpArgs false
namespace Go.Proofs.YtmdefiphdgcijaaDoor
def b6y:Ty→Value→Bool
 | .int k, .int k' n=>decide (k=k')&&decide (n=0)
 | .bool, .bool b => !b
 | .str, .string s=>s.data.toList.isEmpty
 | .slice _, .slice none 0 0=>true
 | .ptr, .pointer none=>true
 | _,_=>false
def d1y:List Ty→List Value→Bool
 | [],[]=>true
 | t::ts,v::vs=>b6y t v&&d1y ts vs
 | _,_=>false
def b7u(τ:Ty)(v:Value):Bool :=
 match τ,v with
 | .st s, .agg cs=>d1y s.ctys cs.toList
 | .st _,_=>false
 | τ,v=>b6y τ v
def d5y(P:Program)(T:TypeId)(τ:Ty):Bool :=
 match P.info? T with
 | some i=>Nat.beq i.size τ.size&&(match i.zero with
  | some z=>b7u τ z
  | none=>false)
 | none=>false
def c6e(E:Env)(s:a0h):Nat→List Field→List Ty→Bool
 | _,[],[]=>true
 | i,f::fs,t::ts=>(match a0f E.ty f.type with
   | some (τ,_)=>decide (τ=t)
   | none=>false)&&Nat.beq f.offset (s.offs i)&&c6e E s (i+1) fs ts
 | _,_,_=>false
def b2w(P:Program)(E:Env)(T:TypeId)(τ:Ty)(b e:Nat):Bool :=
 d5y P T τ&&match τ with
  | .int k=>match P.underlying T with
   | some (.int k')=>decide (k=k')
   | _=>false
  | .bool=>match P.underlying T with
   | some .bool=>true
   | _=>false
  | .str=>match P.underlying T with
   | some .string=>true
   | _=>false
  | .slice t=>match P.underlying T with
   | some (.slice e')=>Nat.beq e e'&&(match a0f E.ty e with
     | some (τ',_)=>decide (τ'=t)
     | none=>false)&&(match P.info? e with
     | some i=>Nat.beq i.bytes b
     | none=>false)&&d5y P e t
   | _=>false
  | .st s=>match P.underlying T with
   | some (.struct fs)=>c6e E s 0 fs.toList s.ftys
   | _=>false
  | .mv _=>false
  | .ptr=>match P.underlying T with
   | some (.pointer _)=>true
   | _=>false
def d7r(P:Program)(E:Env)(T:TypeId)(κ ε:Ty):Bool:=match P.underlying T with
 | some (.map k e)=>match a0f E.ty k,a0f E.ty e with
  | some (κ',_),some (ε',_)=>decide (κ'=κ)&&(decide (ε'=ε)&&(κ.key&&ε.key))
  | _,_=>false
 | _=>false
structure f0i(P:Program)(T:TypeId)(τ:Ty):Prop where
 ex:∃ i z,P.info? T=some i∧i.size=τ.size∧i.zero=some z∧b7u τ z=true
theorem e2y{P:Program}{T:TypeId}{τ:Ty}(h:d5y P T τ=true):f0i P T τ:=by
 unfold d5y at h
 split at h
 ·rename_i i hi
  simp only[Bool.and_eq_true] at h
  obtain⟨h1,h2⟩:=h
  split at h2
  ·rename_i z hz
   exact⟨i,z,hi,Nat.eq_of_beq_eq_true h1,hz,h2⟩
  ·cases h2
 ·cases h
def b4j(P:Program)(w:World)(S:Nat→Prop):Arg→Value→Prop
 | .clo v,x=>∃ f caps l,x = .func (.func f) #[] l.toArray∧c3n P f caps v.ps v.r v.F []∧a0g (c5p w S) caps l
 | a,x=>c5p w S a x
theorem b4j.of0{P:Program}{w:World}{S:Nat→Prop}{a:Arg}{x:Value}(h:c5p w S a x):b4j P w S a x:=by
 cases a with
 | clo v=>exact h.elim
 | own v=>exact h.elim
 | box k=>exact h.elim
 | _=>exact h
def a1h(P:Program)(f:FuncId)(args:List Arg)(post:List TV→Prop):Prop :=
 ∀ (w:World) (S:Nat→Prop) (vals:List Value),SOk w S→a0g (b4j P w S) args vals →
  Calls P f vals.toArray w fun e w'=>∃ x S' res,e = .returned x∧post res∧a1p (fun _=>False) w w'∧(∀ b,b<w.heap.size→(S' b↔S b))∧(∀ b,S' b→b<w'.heap.size)∧c2p w' S' res x
def OwV(w:World)(v:TV)(x:Value)(fp:List Nat):Prop :=
 match v with
 | ⟨.st s,y⟩=>∃ cs,x = .agg cs.toArray∧Ow w (s.toD y) cs fp
 | v=>Ow w v.toD [x] fp
def c5r(w:World):List TV→List Value→List Nat→Prop
 | [],[],fp=>fp=[]
 | v::vs,x::xs,fp=>∃ f1 f2,fp=f1++f2∧OwV w v x f1∧c5r w vs xs f2
 | _,_,_=>False
def d1e(w:World):List TV→Value→List Nat→Prop
 | [v],x,fp=>OwV w v x fp
 | vs,x,fp=>∃ l,x = .tuple l.toArray∧c5r w vs l fp
def b2x(P:Program)(w:World)(S:Nat→Prop):List Arg→List Value→List Nat→Prop
 | [],[],fp=>fp=[]
 | a::as,x::xs,fp=>∃ f1 f2,fp=f1++f2∧(match a with
  | .own v=>OwV w v x f1
  | a=>f1=[]∧b4j P w S a x)∧b2x P w S as xs f2
 | _,_,_=>False
def b4m(P:Program)(f:FuncId)(args:List Arg)(res:List TV):Prop :=
 ∀ (w:World) (S:Nat→Prop) (vals:List Value) (fa:List Nat),SOk w S→b2x P w S args vals fa→(fa=[]∨∀ a∈args,a.solid=true)→fa.Nodup→(∀ b∈fa,b<w.heap.size∧¬ S b) →
  Calls P f vals.toArray w fun e w'=>∃ x fp,e = .returned x∧a1p (fun b=>b∈fa) w w'∧d1e w' res x fp∧fp.Nodup∧∀ b∈fp,b∈fa∨(w.heap.size≤b∧b<w'.heap.size)
theorem b2x.of_all2{P:Program}{w:World}{S:Nat→Prop}:∀ {as:List Arg} {xs:List Value},a0g (b4j P w S) as xs→b2x P w S as xs []
 | [],[],_=>rfl
 | a::as,x::xs,h=>by
  refine⟨[],[],rfl,?_,b2x.of_all2 h.2⟩
  cases a with
  | own v=>exact h.1.elim
  | box k=>exact h.1.elim
  | _=>exact⟨rfl,h.1⟩
 | [],_::_,h=>h.elim
 | _::_,[],h=>h.elim
def c8l(P:Program)(f:FuncId)(m:b7v):Prop :=
 ∀ (x:m.τ.den) (k:Int) (w:World) (v:Value) (fp:List Nat),(m.g x k).1.ok→a0e k→Gok w (fun b=>b<w.heap.size∧b∉fp)→OwV w ⟨m.τ,x⟩ v fp→fp.Nodup→(∀ b∈fp,b<w.heap.size) →
  Calls P f #[v, .int .i64 k] w fun e w'=>e = .returned (.int .i64 (m.g x k).2.2)∧a0e (m.g x k).2.2∧a1p (fun b=>b∈fp) w w'∧∃ fp',OwV w' ⟨m.τ,(m.g x k).2.1⟩ v fp'∧fp'.Nodup∧∀ b∈fp',b∈fp∨(w.heap.size≤b∧b<w'.heap.size)
def a8t(w:World)(S:Nat→Prop)(B:Nat→Nat):List CK→List TV→List Value→List Nat→Prop
 | [],[],[],fp=>fp=[]
 | .d τ::ks,v::ds,x::xs,fp=>(v.τ=τ∧τ.agg=false∧Rd w S v.toD [x])∧a8t w S B ks ds xs fp
 | .o τ::ks,v::ds,x::xs,fp=>∃ f1 f2,fp=f1++f2∧(v.τ=τ∧τ.agg=false∧Ow w v.toD [x] f1)∧a8t w S B ks ds xs f2
 | .p j::ks,ds,x::xs,fp=>x = .pointer (some ⟨B j,0,none⟩)∧a8t w S B ks ds xs fp
 | _,_,_,_=>False
def b0c(w:World)(S:Nat→Prop)(B:Nat→Nat):Nat→List (List CK)→List (List TV)→List Nat→Prop
 | _,[],[],fp=>fp=[]
 | k,ks::sh,ds::dss,fp=>∃ l t f1 f2,fp=f1++f2∧w.heap[B k]?=some (.cells l.toArray t (0,0))∧a8t w S B ks ds l f1∧b0c w S B (k+1) sh dss f2
 | _,_,_,_=>False
def e7e(w:World)(S X:Nat→Prop)(B:Nat→Nat):Arg→Value→Prop
 | .box k,x=>x = .pointer (some ⟨B k,0,none⟩)
 | .val v,x=>RdV w S v x
 | .ref v,x=>∃ b o cs,x = .pointer (some ⟨b,o,none⟩)∧b<w.heap.size∧¬ X b∧a1x w b o cs∧Rd w S v.toD cs
 | .fn f,x=>x = .func (.func f) #[] #[]
 | .clo _,_=>False
 | .own _,_=>False
def BX(n:Nat)(B:Nat→Nat)(fa:List Nat)(b:Nat):Prop:=b∈fa∨∃ k,k<n∧b=B k
def e3n(P:Program)(f:FuncId)(sh:List (List CK))(args:List Arg)(dss:List (List TV))(res:List TV)(dss':List (List TV)):Prop :=
 ∀ (w:World) (S:Nat→Prop) (B:Nat→Nat) (vals:List Value) (fa:List Nat),SOk w S→b0c w S B 0 sh dss fa→fa.Nodup→(∀ b∈fa,b<w.heap.size∧¬ S b∧∀ k,k<sh.length→B k≠b) →
  (∀ k,k<sh.length→B k<w.heap.size∧¬ S (B k))→(∀ j k,j<sh.length→k<sh.length→B j=B k→j=k)→a0g (e7e w S (BX sh.length B fa) B) args vals →
  Calls P f vals.toArray w fun e w'=>∃ x S' fp fa',e = .returned x∧a1p (BX sh.length B fa) w w'∧(∀ b,S b→S' b)∧(∀ b,S' b→b<w'.heap.size)∧(∀ b,b<w.heap.size→¬ BX sh.length B fa b→(S' b↔S b)) ∧
   d1e w' res x fp∧b0c w' S' B 0 sh dss' fa'∧(fp++fa').Nodup∧(∀ b∈fp++fa',(b∈fa∨(w.heap.size≤b∧b<w'.heap.size))∧¬ S' b∧∀ k,k<sh.length→B k≠b)∧∀ k,k<sh.length→¬ S' (B k)
theorem a1h.ok0{P:Program}{f:FuncId}{args:List Arg}{post:List TV→Prop}(h:a1h P f args post):d1d P f args post :=
 fun w S vals hS ha=>h w S vals hS (ha.imp fun _ _ _ hx => .of0 hx)
def e8s(w:World)(S:Nat→Prop)(x:Value):e0j→Prop
 | .box cells=>∃ b l t,x = .pointer (some ⟨b,0,none⟩)∧w.heap[b]?=some (.cells l.toArray t (0,0))∧a0g (fun v x=>v.τ.agg=false∧Rd w S v.toD [x]) cells l
 | .row e τ xs=>∃ l,w.ownsRow 0 e τ.size x xs.length l∧RdL w S (xs.map τ.toD) l∧xs.length≤140737488355328
def e8t(P:Program)(f:FuncId)(args:List Arg)(o:e0j):Prop :=
 ∀ (w:World) (S:Nat→Prop) (vals:List Value),SOk w S→a0g (b4j P w S) args vals →
  Calls P f vals.toArray w fun e w'=>∃ x S',e = .returned x∧a1p (fun _=>False) w w'∧(∀ k,k<w.heap.size→(S' k↔S k))∧(∀ k,S' k→k<w'.heap.size) ∧
   (∀ b,blk x=some b→w.heap.size≤b∧b<w'.heap.size∧¬ S' b)∧e8s w' S' x o
structure a0r(P:Program)(E:Env):Prop where
 ty:∀ T τ b e,a0f E.ty T=some (τ,b,e)→b2w P E T τ b e=true
 mty:∀ T κ ε,a0f E.mty T=some (κ,ε)→d7r P E T κ ε=true
 pty:∀ T τ,a0f E.pty T=some τ→True
 ctr:∀ f args pre res,E.ctr f args=some (pre,res)→pre.ok→a5p P f∧a1h P f args (·=res)
 octr:∀ f args pre res,E.octr f args=some (pre,res)→pre.ok→a5p P f∧b4m P f args res
 mark:∀ f m,E.mark f=some m→a5p P f∧c8l P f m
 nctr:∀ f args pre o,E.nctr f args=some (pre,o)→pre.ok→a5p P f∧e8t P f args o
 sctr:∀ f sk args dss pre res dss',E.sk f=some sk→E.sctr f args dss=some (pre,res,dss')→pre.ok→a5p P f∧e3n P f sk.sh args dss res dss'
section
variable {P:Program} {E:Env} {T:TypeId} {τ:Ty} {b e:Nat}
theorem a0r.info(hE:a0r P E)(h:a0f E.ty T=some (τ,b,e)):f0i P T τ:=by
 have:=hE.ty _ _ _ _ h
 unfold b2w at this
 simp only[Bool.and_eq_true] at this
 exact e2y this.1
theorem a0r.int(hE:a0r P E){k:IntKind}(h:a0f E.ty T=some (.int k,b,e)):P.underlying T=some (.int k):=by
 have:=hE.ty _ _ _ _ h
 unfold b2w at this
 simp only[Bool.and_eq_true] at this
 have h2:=this.2
 split at h2
 ·rename_i k' hk
  rw[hk,of_decide_eq_true h2]
 ·cases h2
theorem a0r.bool(hE:a0r P E)(h:a0f E.ty T=some (.bool,b,e)):P.underlying T=some .bool:=by
 have:=hE.ty _ _ _ _ h
 unfold b2w at this
 simp only[Bool.and_eq_true] at this
 have h2:=this.2
 split at h2
 ·assumption
 ·cases h2
theorem a0r.str(hE:a0r P E)(h:a0f E.ty T=some (.str,b,e)):P.underlying T=some .string:=by
 have:=hE.ty _ _ _ _ h
 unfold b2w at this
 simp only[Bool.and_eq_true] at this
 have h2:=this.2
 split at h2
 ·assumption
 ·cases h2
theorem a0r.slice(hE:a0r P E){t:Ty}(h:a0f E.ty T=some (.slice t,b,e)) :
  P.underlying T=some (.slice e)∧(∃ b' e',a0f E.ty e=some (t,b',e'))∧(∃ i z,P.info? e=some i∧i.size=t.size∧i.bytes=b∧i.zero=some z∧b7u t z=true):=by
 have:=hE.ty _ _ _ _ h
 unfold b2w at this
 simp only[Bool.and_eq_true] at this
 have h2:=this.2
 split at h2
 ·rename_i e' he'
  simp only[Bool.and_eq_true] at h2
  obtain⟨⟨⟨h3,h4⟩,h5⟩,h6⟩:=h2
  have h3:=Nat.eq_of_beq_eq_true h3
  subst h3
  split at h4
  ·rename_i τ' r hl
   have h4:=of_decide_eq_true h4
   subst h4
   obtain⟨i,z,hi,hs,hz,hzo⟩:=(e2y h6).ex
   rw[hi] at h5
   exact⟨he',⟨_,_,hl⟩,i,z,hi,hs,Nat.eq_of_beq_eq_true h5,hz,hzo⟩
  ·cases h4
 ·cases h2
theorem d2u{s:a0h}:∀ (n:Nat) (fs:List Field) (ts:List Ty),c6e E s n fs ts=true→fs.length=ts.length ∧
  ∀ i f,fs[i]?=some f→∃ t b e,ts[i]?=some t∧a0f E.ty f.type=some (t,b,e)∧f.offset=s.offs (n+i)
 | _,[],[],_=>⟨rfl,by simp⟩
 | n,f::fs,t::ts,h=>by
  simp only[c6e,Bool.and_eq_true] at h
  obtain⟨⟨h1,h2⟩,h3⟩:=h
  obtain⟨h4,h5⟩:=d2u (n+1) fs ts h3
  refine⟨by simp[h4],fun i g hi=>?_⟩
  cases i with
  | zero =>
   simp at hi
   subst hi
   split at h1
   ·rename_i τ r hl
    have h1:=of_decide_eq_true h1
    subst h1
    exact⟨_,_,_,rfl,hl,Nat.eq_of_beq_eq_true h2⟩
   ·cases h1
  | succ i =>
   obtain⟨t',b',e',k1,k2,k3⟩:=h5 i g (by simpa using hi)
   exact⟨t',b',e',by simpa using k1,k2,by rw[k3];congr 1;omega⟩
 | _,[],_::_,h=>by cases h
 | _,_::_,[],h=>by cases h
theorem a0r.st(hE:a0r P E){s:a0h}(h:a0f E.ty T=some (.st s,b,e)) :
  ∃ fs,P.underlying T=some (.struct fs)∧fs.size=s.ftys.length∧∀ i f,fs[i]?=some f→∃ t b e,s.ftys[i]?=some t∧a0f E.ty f.type=some (t,b,e)∧f.offset=s.offs i:=by
 have:=hE.ty _ _ _ _ h
 unfold b2w at this
 simp only[Bool.and_eq_true] at this
 have h2:=this.2
 split at h2
 ·rename_i fs hfs
  obtain⟨h3,h4⟩:=d2u 0 _ _ h2
  refine⟨fs,hfs,by simpa using h3,fun i f hi=>?_⟩
  obtain⟨t,b',e',k1,k2,k3⟩:=h4 i f (by simpa using hi)
  exact⟨t,b',e',k1,k2,by simpa using k3⟩
 ·cases h2
theorem a0r.nomv(hE:a0r P E){t:Ty}(h:a0f E.ty T=some (.mv t,b,e)):False:=by
 have:=hE.ty _ _ _ _ h
 unfold b2w at this
 simp at this
theorem a0r.ptr(hE:a0r P E)(h:a0f E.ty T=some (.ptr,b,e)):∃ t,P.underlying T=some (.pointer t):=by
 have:=hE.ty _ _ _ _ h
 unfold b2w at this
 simp only[Bool.and_eq_true] at this
 have h2:=this.2
 split at h2
 ·rename_i t ht;exact⟨t,ht⟩
 ·cases h2
theorem a0r.isAgg(hE:a0r P E)(h:a0f E.ty T=some (τ,b,e))(w:World):(isAgg T).run P w = .ok τ.agg w:=by
 cases τ with
 | int k=>simp[Go.isAgg,run_underlying (hE.int h)];rfl
 | bool=>simp[Go.isAgg,run_underlying (hE.bool h)];rfl
 | str=>simp[Go.isAgg,run_underlying (hE.str h)];rfl
 | slice t=>simp[Go.isAgg,run_underlying (hE.slice h).1];rfl
 | st s=>obtain⟨fs,h1,_⟩:=hE.st h;simp[Go.isAgg,run_underlying h1];rfl
 | mv t=>exact (hE.nomv h).elim
 | ptr=>obtain⟨t,ht⟩:=hE.ptr h;simp[Go.isAgg,run_underlying ht];rfl
theorem a0r.sizeOf(hE:a0r P E)(h:a0f E.ty T=some (τ,b,e))(w:World):(sizeOf T).run P w = .ok τ.size w:=by
 obtain⟨i,z,h1,h2,_⟩:=(hE.info h).ex
 simp[Go.sizeOf,typeInfo,h1,h2]
theorem Ty.size_of_not_agg{τ:Ty}(h:τ.agg=false):τ.size=1:=by cases τ<;>first|rfl|cases h
theorem a0h.size_pos(s:a0h):0<s.size:=by cases s<;>decide
theorem Ty.size_pos(τ:Ty):0<τ.size:=by cases τ<;>first|exact Nat.one_pos|exact a0h.size_pos _
def mkV(τ:Ty)(cs:List Value):Value :=
 match τ with
 | .st _ => .agg cs.toArray
 | _=>cs.getD 0 undef
theorem b1i(hE:a0r P E)(h:a0f E.ty T=some (τ,b,e)){w:World}{bk o:Nat}{cs:List Value}(hc:a1x w bk o cs)(hl:cs.length=τ.size) :
  (Instr.loadAt T (.pointer (some ⟨bk,o,none⟩))).run P w = .ok (mkV τ cs) w:=by
 have hc':∀ j v,cs[j]?=some v→w.cell? ((⟨bk,o,none⟩:Addr).add j)=some v:=fun j v hj=>by rw[Addr.add_lit];exact hc j v hj
 simp only[Instr.loadAt,Instr.sureAddr,loadVar,Sem.run_bind,Sem.run_pure,Result.andThen_ok,hE.isAgg h]
 cases hτ:τ.agg with
 | true =>
  simp only[if_true,Sem.run_bind,hE.sizeOf h,Result.andThen_ok]
  rw[←hl,run_loadCells_list w _ cs hc']
  cases τ<;>first|rfl|cases hτ
 | false =>
  have h1:cs.length=1:=hl.trans (Ty.size_of_not_agg hτ)
  match cs,h1 with
  | [v],_ =>
   have:=hc 0 v rfl
   simp only[Nat.add_zero] at this
   simp[run_load,this]
   cases τ<;>first|rfl|cases hτ
end
end Go.Proofs.YtmdefiphdgcijaaDoor

/- Runs, Make. -/
import Derived.Test.YtmdefiphdgcijaaDoorVmVals
import Derived.IntWalk
import Derived.Laws.Small
import Derived.Laws.CopyRow
set_option linter.unusedVariables false
set_option linter.unusedSimpArgs false
namespace Go.Proofs.YtmdefiphdgcijaaDoor
theorem a3p{k:IntKind}{n:Int}(h:a3d k n):k.min≤n∧n≤k.max:=by
 cases k<;>first
  | exact h
  | (simp only[a3d,a0e] at h;simp only[IntKind.min,IntKind.max,IntKind.signed,IntKind.bits,if_true];exact⟨by omega,by omega⟩)
theorem b4i{k:IntKind}{n:Int}(h:k.min≤n∧n≤k.max):k.wrap n=n:=by
 cases k<;>simp[IntKind.min,IntKind.max,IntKind.signed,IntKind.bits] at h<;>simp[IntKind.wrap,IntKind.signed,IntKind.bits]<;>(try split)<;>omega
theorem d9o(n:Int):IntKind.u64.min≤IntKind.u64.wrap n∧IntKind.u64.wrap n≤IntKind.u64.max:=by
 simp[IntKind.min,IntKind.max,IntKind.signed,IntKind.bits,IntKind.wrap];omega
theorem e6e{k:IntKind}{a:Int}(h0:0≤a)(h:k.min≤a∧a≤k.max):a.toNat<2 ^ k.bits:=by
 cases k<;>simp[IntKind.min,IntKind.max,IntKind.signed,IntKind.bits] at h ⊢<;>omega
theorem e7k{k:IntKind}{a b:Int}(ha0:0≤a)(hb0:0≤b)(ha:k.min≤a∧a≤k.max)(hb:k.min≤b∧b≤k.max) :
  k.wrap ((BitVec.ofInt k.bits a &&& BitVec.ofInt k.bits b).toNat:Int)=((a.toNat &&& b.toNat:Nat):Int)∧k.min≤((a.toNat &&& b.toNat:Nat):Int)∧((a.toNat &&& b.toNat:Nat):Int)≤k.max:=by
 have h1:∀ x:Int,0≤x→k.min≤x∧x≤k.max→(BitVec.ofInt k.bits x).toNat=x.toNat:=fun x h0 hx=>by
  obtain⟨n,rfl⟩:=Int.eq_ofNat_of_zero_le h0
  have:=e6e h0 hx
  simp only[Int.toNat_natCast] at this ⊢
  rw[show BitVec.ofInt k.bits (n:Int)=BitVec.ofNat k.bits n from BitVec.ofInt_natCast ..,BitVec.toNat_ofNat]
  exact Nat.mod_eq_of_lt this
 have hle:((a.toNat &&& b.toNat:Nat):Int)≤a:=by
  have := @Nat.and_le_left a.toNat b.toNat
  omega
 have hr:k.min≤((a.toNat &&& b.toNat:Nat):Int)∧((a.toNat &&& b.toNat:Nat):Int)≤k.max:=by
  refine⟨?_,by omega⟩
  have:k.min≤0:=by cases k<;>decide
  omega
 rw[BitVec.toNat_and,h1 a ha0 ha,h1 b hb0 hb]
 exact⟨b4i hr,hr⟩
theorem d8h{op:BinOp}{k yk:IntKind}{a b r:Int}{p:Vc}(h:e0g op k a b=some (p,r))(hp:p.ok)(hk:op = .shl∨op = .shr∨yk=k)(P:Program)(t:TypeId)(w:World) :
  (binOp op t (.int k a) (.int yk b)).run P w = .ok (.int k r) w∧k.min≤r∧r≤k.max:=by
 cases op<;>simp only[e0g] at h<;>try cases h
 case add =>
  have hk:yk=k:=by simpa using hk
  subst hk
  split at h<;>simp only[Option.some.injEq,Prod.mk.injEq] at h<;>obtain⟨rfl,rfl⟩:=h
  ·exact⟨by simp[binOp_add,Op.intArith],d9o _⟩
  ·have:=a3p hp
   exact⟨by simp[binOp_add,Op.intArith,b4i this],this⟩
 case sub =>
  have hk:yk=k:=by simpa using hk
  subst hk
  have:=a3p hp
  exact⟨by simp[binOp_sub,Op.intArith,b4i this],this⟩
 case mul =>
  have hk:yk=k:=by simpa using hk
  subst hk
  split at h<;>simp only[Option.some.injEq,Prod.mk.injEq] at h<;>obtain⟨rfl,rfl⟩:=h
  ·exact⟨by simp[binOp_mul,Op.intArith],d9o _⟩
  ·have:=a3p hp
   exact⟨by simp[binOp_mul,Op.intArith,b4i this],this⟩
 case quo =>
  have hk:yk=k:=by simpa using hk
  subst hk
  have:=a3p hp.2
  exact⟨by simp[binOp_quo,Op.intDiv,hp.1,b4i this],this⟩
 case rem =>
  have hk:yk=k:=by simpa using hk
  subst hk
  have:=a3p hp.2
  exact⟨by simp[binOp_rem,Op.intDiv,hp.1],this⟩
 case and =>
  have hk:yk=k:=by simpa using hk
  subst hk
  obtain⟨h1,h2⟩:=e7k hp.1 hp.2.1 (a3p hp.2.2.1) (a3p hp.2.2.2)
  exact⟨by simp only[binOp_and,Op.intBits,Sem.run_pure,h1],h2⟩
 case shl =>
  have hp1:b<(k.bits:Int):=hp.2.1
  have:=a3p hp.2.2
  have hb:min b.toNat k.bits=b.toNat:=by omega
  exact⟨by simp[binOp_shl,Op.shift,Int.not_lt.2 hp.1,hb,b4i this],this⟩
 case shr =>
  have hp1:b<(k.bits:Int):=hp.2.1
  have:=a3p hp.2.2
  have hb:min b.toNat k.bits=b.toNat:=by omega
  exact⟨by simp[binOp_shr,Op.shift,Int.not_lt.2 hp.1,hb],this⟩
theorem e2e(k:IntKind)(n:Int):k.min≤k.wrap n∧k.wrap n≤k.max:=by
 cases k<;>simp[IntKind.min,IntKind.max,IntKind.signed,IntKind.bits,IntKind.wrap]<;>omega
theorem e3p{wr:Bool}{op:BinOp}{k yk:IntKind}{a b r:Int}{p:Vc}(h:e0q wr op k a b=some (p,r))(hp:p.ok)(hk:op = .shl∨op = .shr∨yk=k)(P:Program)(t:TypeId)(w:World) :
  (binOp op t (.int k a) (.int yk b)).run P w = .ok (.int k r) w∧k.min≤r∧r≤k.max:=by
 unfold e0q at h
 split at h
 ·split at h
  ·have hk:yk=k:=by simpa using hk
   subst hk
   simp only[Option.some.injEq,Prod.mk.injEq] at h
   obtain⟨rfl,rfl⟩:=h
   exact⟨by simp[binOp_add,Op.intArith],e2e _ _⟩
  ·have hk:yk=k:=by simpa using hk
   subst hk
   simp only[Option.some.injEq,Prod.mk.injEq] at h
   obtain⟨rfl,rfl⟩:=h
   exact⟨by simp[binOp_sub,Op.intArith],e2e _ _⟩
  ·have hk:yk=k:=by simpa using hk
   subst hk
   simp only[Option.some.injEq,Prod.mk.injEq] at h
   obtain⟨rfl,rfl⟩:=h
   exact⟨by simp[binOp_mul,Op.intArith],e2e _ _⟩
  ·exact d8h h hp hk P t w
 ·exact d8h h hp hk P t w
theorem e9m{op:BinOp}{k:IntKind}{a b:Int}{r:Bool}(h:cmp op a b=some r)(P:Program)(t:TypeId)(w:World) :
  (binOp op t (.int k a) (.int k b)).run P w = .ok (.bool r) w:=by
 cases op<;>simp only[cmp,Option.some.injEq] at h<;>try cases h
 ·simp only[binOp_eql,Sem.run_pure]
  congr 2
 ·simp only[binOp_neq,Sem.run_pure]
  congr 2
 ·simp[binOp_lss]
 ·simp[binOp_leq]
 ·simp[binOp_gtr]
 ·simp[binOp_geq]
section
variable {c:Ctx} {G:Gh} {lk:Nat→Option a0d} {w:World}
theorem e0s(a b:ByteArray):(a.toList == b.toList)=decide (a.data.toList=b.data.toList):=by
 rw[ByteArray.toList_eq,ByteArray.toList_eq]
 rw[Bool.eq_iff_iff]
 simp
theorem e5d(hE:a0r c.P c.E){op:BinOp}{T:TypeId}{u v r:AV}{x y:Value}{p:Vc}{wr:Bool}(ox oy:Operand)
  (h:e3r (match a0f c.E.ty T with
   | some (.bool,_)=>true
   | _=>false) wr op u v=some (p,r)) (hp:p.ok) (hu:VR c G lk w u x) (hv:VR c G lk w v y) :
  ∃ z,(do eqGuard op T ox oy x y;binOp op T x y:Sem Value).run c.P w = .ok z w∧VR c G lk w r z:=by
 unfold e3r at h
 split at h
 ·rename_i k a k' b
  obtain⟨h1,h2⟩:=hu
  obtain⟨h3,h4⟩:=hv
  simp only[List.cons.injEq,and_true] at h1 h3
  subst h1 h3
  simp only[eqGuard_at_int,Sem.run_bind,Sem.run_pure,Result.andThen_ok]
  split at h
  ·rename_i p' r' har
   have key:(op = .shl∨op = .shr∨k'=k)→p'.ok→∃ z,(binOp op T (.int k a) (.int k' b)).run c.P w = .ok z w∧VR c G lk w (.imm ⟨.int k,r'⟩) z:=fun hk hp'=>by
    obtain⟨h5,h6⟩:=e3p har hp' hk c.P T w
    exact⟨_,h5,rfl,h6⟩
   split at h
   ·simp only[Option.some.injEq,Prod.mk.injEq] at h
    obtain⟨rfl,rfl⟩:=h
    exact key (.inl rfl) hp
   ·simp only[Option.some.injEq,Prod.mk.injEq] at h
    obtain⟨rfl,rfl⟩:=h
    exact key (.inr (.inl rfl)) hp
   ·split at h
    ·rename_i hk
     simp only[Option.some.injEq,Prod.mk.injEq] at h
     obtain⟨rfl,rfl⟩:=h
     exact key (.inr (.inr (of_decide_eq_true hk).symm)) hp
    ·cases h
  ·split at h
   ·rename_i hk
    have hk:=of_decide_eq_true hk
    subst hk
    split at h
    ·rename_i cc hc
     simp only[Option.some.injEq,Prod.mk.injEq] at h
     obtain⟨rfl,rfl⟩:=h
     exact⟨_,e9m hc c.P T w,rfl⟩
    ·cases h
   ·cases h
 ·rename_i a b
  have hu:[x]=[.bool a]:=hu
  have hv:[y]=[.bool b]:=hv
  simp only[List.cons.injEq,and_true] at hu hv
  subst hu hv
  split at h
  ·rename_i hT
   split at hT
   ·rename_i r' hl
    have hb:=hE.bool hl
    split at h
    ·simp only[Option.some.injEq,Prod.mk.injEq] at h
     obtain⟨rfl,rfl⟩:=h
     exact⟨.bool (a == b),by simp[binOp,run_equal_bool w T a b hb,eqGuard_at_bool],rfl⟩
    ·simp only[Option.some.injEq,Prod.mk.injEq] at h
     obtain⟨rfl,rfl⟩:=h
     exact⟨.bool !(a == b),by simp[binOp,run_equal_bool w T a b hb,eqGuard_at_bool],rfl⟩
    ·cases h
   ·cases hT
  ·cases h
 ·rename_i a b
  obtain⟨s,h1,h2,h3⟩:=hu
  obtain⟨s',h4,h5,h6⟩:=hv
  simp only[List.cons.injEq,and_true] at h1 h4
  subst h1 h4
  subst h2 h5
  split at h
  ·simp only[Option.some.injEq,Prod.mk.injEq] at h
   obtain⟨rfl,rfl⟩:=h
   exact⟨.bool (s.toList == s'.toList),by simp[binOp,Op.stringOp,eqGuard_at_string],by rw[e0s];rfl⟩
  ·simp only[Option.some.injEq,Prod.mk.injEq] at h
   obtain⟨rfl,rfl⟩:=h
   exact⟨.bool (!(s.toList == s'.toList)),by simp[binOp,Op.stringOp,eqGuard_at_string],by rw[e0s];rfl⟩
  ·simp only[Option.some.injEq,Prod.mk.injEq] at h
   obtain⟨rfl,rfl⟩:=h
   have hsz:s.size+s'.size≤140737488355328:=by
    have:=hp
    simp only[Array.length_toList] at this
    exact this
   have hs2:(s++s').size=s.size+s'.size:=ByteArray.size_append
   refine⟨.string (s++s'),?_,s++s',rfl,by simp,by rw[hs2];exact hsz⟩
   have:¬ (((s.size+s'.size:Nat):Int)>IntKind.i64.max):=by rw[IntKind.max_i64];omega
   simp only[eqGuard_at_string,Sem.run_bind,Sem.run_pure,Result.andThen_ok,binOp,Op.stringOp,if_neg this]
  ·cases h
 ·cases h
theorem a8l(hE:a0r c.P c.E){T:TypeId}{n:a0h}{b e:Nat}(h:a0f c.E.ty T=some (.st n,b,e)){bk o:Nat}{i:Nat}(hi:i<n.ftys.length)(w:World) :
  (Instr.fieldAt T (.pointer (some ⟨bk,o,none⟩)) i).run c.P w = .ok (.pointer (some ⟨bk,o+n.offs i,none⟩)) w:=by
 obtain⟨fs,h1,h2,h3⟩:=hE.st h
 have hf:fs[i]?=some fs[i]:=Array.getElem?_eq_getElem (by omega)
 obtain⟨t,b',e',h4,h5,h6⟩:=h3 i _ hf
 have hsz:=hE.sizeOf h5 w
 have h0:t.size≠0:=Nat.pos_iff_ne_zero.1 t.size_pos
 simp[Instr.fieldAt,run_underlying h1,hf,Instr.sureAddr,fieldPlace,hsz,h0,Addr.add_lit,h6]
theorem d9f(hE:a0r c.P c.E){T:TypeId}{n:a0h}{b e:Nat}(h:a0f c.E.ty T=some (.st n,b,e)){l:List Value}{i:Nat}{t:Ty}(hi:n.ftys[i]?=some t)
  (hl:n.offs i+t.size≤l.length) (w:World) :
  (Instr.field T (.agg l.toArray) i).run c.P w = .ok (mkV t ((l.drop (n.offs i)).take t.size)) w:=by
 obtain⟨fs,h1,h2,h3⟩:=hE.st h
 have hlt:i<fs.size:=by have:=(List.getElem?_eq_some_iff.1 hi).1;omega
 have hf:fs[i]?=some fs[i]:=Array.getElem?_eq_getElem hlt
 obtain⟨t',b',e',h4,h5,h6⟩:=h3 i _ hf
 rw[hi] at h4
 simp only[Option.some.injEq] at h4
 subst h4
 have hsz:=hE.sizeOf h5 w
 have hag:=hE.isAgg h5 w
 simp only[Instr.field,Sem.run_bind,run_underlying h1,Result.andThen_ok,hf,asAgg,part,hag,Sem.run_pure]
 cases hτ:t.agg with
 | true =>
  simp only[if_true,Sem.run_bind,hsz,Result.andThen_ok,Sem.run_pure,h6]
  cases t<;>first|(cases hτ;done)|skip
  simp only[mkV,Result.ok.injEq,Value.agg.injEq,and_true]
  apply Array.ext'
  simp[List.take_drop]
 | false =>
  have h1:=Ty.size_of_not_agg hτ
  simp only[Bool.false_eq_true,if_false,h6]
  have hx:l.toArray[n.offs i]?=some (l[n.offs i]'(by omega)):=by rw[List.getElem?_toArray];exact List.getElem?_eq_getElem (by omega)
  rw[hx]
  simp only[Sem.run_pure,h1]
  have he:(l.drop (n.offs i)).take 1=[l[n.offs i]'(by omega)]:=by
   rw[List.drop_eq_getElem_cons (by omega),List.take_succ_cons,List.take_zero]
  rw[he]
  cases t<;>first|rfl|cases hτ
end
end Go.Proofs.YtmdefiphdgcijaaDoor

set_option linter.unusedVariables false
set_option linter.unusedSimpArgs false
namespace Go.Proofs.YtmdefiphdgcijaaDoor
section
variable {c:Ctx} {G:Gh} {lk:Nat→Option a0d} {w:World}
theorem e7d(k:IntKind):k.min≤0∧0≤k.max:=by cases k<;>decide
theorem c7v{τ:Ty}{v:Value}(h:b6y τ v=true):C1 c G lk w (b3u τ) v:=by
 unfold b6y at h
 split at h
 ·simp only[Bool.and_eq_true] at h
  have h1:=of_decide_eq_true h.1
  have h2:=of_decide_eq_true h.2
  subst h1 h2
  exact⟨rfl,rfl,e7d _⟩
 ·rename_i b
  cases b
  ·exact⟨rfl,rfl⟩
  ·cases h
 ·rename_i s
  exact⟨rfl,s,rfl,List.isEmpty_iff.1 h,by simp[List.isEmpty_iff] at h;simp[ByteArray.size,h]⟩
 ·rfl
 ·exact⟨rfl,_,rfl⟩
 ·cases h
theorem a9k{τ:Ty}{z:Value}(h:b7u τ z=true):a0g (C1 c G lk w) (a4z τ) z.cells.toList:=by
 have key:∀ (ts:List Ty) (vs:List Value),d1y ts vs=true→a0g (C1 c G lk w) (ts.map b3u) vs:=by
  intro ts
  induction ts with
  | nil=>intro vs h;cases vs<;>first|trivial|cases h
  | cons t ts ih =>
   intro vs h
   cases vs with
   | nil=>cases h
   | cons v vs =>
    simp only[d1y,Bool.and_eq_true] at h
    exact⟨c7v h.1,ih vs h.2⟩
 have one:∀ v,b6y τ v=true→v.cells = #[v]:=by
  intro v hv
  unfold b6y at hv
  split at hv<;>first|rfl|cases hv
 unfold b7u at h
 split at h
 ·rename_i s cs
  exact key _ _ h
 ·cases h
 ·rename_i τ' v h1 h2
  rw[one _ h]
  have:a4z τ=[b3u τ]:=by
   cases τ<;>first|rfl|(rename_i s;cases v<;>first|exact absurd rfl (h2 s rfl)|cases h)
  rw[this]
  exact⟨c7v h,trivial⟩
theorem d1z{S:Nat→Prop}{τ:Ty}{z:Value}(h:b7u τ z=true):Rd w S (τ.toD τ.zero) z.cells.toList:=by
 have h1:=a9k (c:=⟨{ funcs := #[],goVersion := "",platform := "",initOrder := "",godebug := "",types := #[],rt:=default,cutTypes := #[],globals := #[],inits := #[],main:=0 },{ ty:=[],pty:=[],ctr:=fun _ _=>none },w,fun _=>True,S,fun _=>none,fun _=>False,fun _=>none⟩) (G:=⟨S,fun _=>undef,fun _=>[]⟩) (lk:=fun _=>none) (w:=w) h
 have cell:∀ t x,C1 ⟨{ funcs := #[],goVersion := "",platform := "",initOrder := "",godebug := "",types := #[],rt:=default,cutTypes := #[],globals := #[],inits := #[],main:=0 },{ ty:=[],pty:=[],ctr:=fun _ _=>none },w,fun _=>True,S,fun _=>none,fun _=>False,fun _=>none⟩ ⟨S,fun _=>undef,fun _=>[]⟩ (fun _=>none) w (b3u t) x→Rd w S (t.toD t.zero) [x]:=by
  intro t x hx
  cases t with
  | slice t'=>exact d5a (τ := .slice t') (v := .nil) rfl hx
  | _=>exact hx.2
 cases τ with
 | st s =>
  simp only[a4z] at h1
  show Rd w S (s.toD s.zero) _
  rw[a0h.toD_cells]
  have hz:(s.cells s.zero).map TV.toD=s.ctys.map fun t=>t.toD t.zero:=by cases s<;>rfl
  rw[hz]
  have h2:=a0g.of_map _ h1
  have:∀ (ts:List Ty) (vs:List Value),a0g (fun t x=>Rd w S (t.toD t.zero) [x]) ts vs→a1r w S (ts.map fun t=>t.toD t.zero) vs:=by
   intro ts
   induction ts with
   | nil=>intro vs h;cases vs<;>first|rfl|cases h
   | cons t ts ih =>
    intro vs h
    cases vs with
    | nil=>cases h
    | cons v vs=>exact⟨v,vs,rfl,h.1,ih vs h.2⟩
  exact this _ _ (h2.imp fun t x _ hx=>cell t x hx)
 | _ =>
  simp only[a4z] at h1
  match hc:z.cells.toList,h1 with
  | [x],h1=>exact cell _ _ h1.1
theorem d8p(off:Nat):∀ (xs:List Value) (k:Nat) (l:List Value),off+k+xs.length≤l.length →
  (xs.zipIdx k).foldl (fun cs p=>cs.setIfInBounds (off+p.2) p.1) l.toArray=(l.take (off+k)++xs++l.drop (off+k+xs.length)).toArray
 | [],k,l,_=>by simp
 | x::xs,k,l,h=>by
  simp only[List.length_cons] at h
  simp only[List.zipIdx_cons,List.foldl_cons]
  have:=d8p off xs (k+1) (l.set (off+k) x) (by simp;omega)
  rw[List.setIfInBounds_toArray,this]
  congr 1
  have e:=list_seg_step l (off+k) x xs (by omega)
  simpa [Nat.add_assoc] using e
theorem d3u(place:Nat→Option (Nat×Nat))(i off size:Nat)(v:Value)(rest:List (Nat×Value))(l:List Value)(hp:place i=some (off,size))(hs:v.cells.size=size)(hl:off+size≤l.length) :
  Instr.fill place l.toArray ((i,v)::rest)=Instr.fill place (l.take off++v.cells.toList++l.drop (off+size)).toArray rest:=by
 have hn:(decide (v.cells.size≠size)||decide (off+v.cells.size>l.toArray.size))=false:=by
  simp[hs];omega
 simp only[Instr.fill,hp,hn,Bool.false_eq_true,if_false]
 congr 1
 rw[←Array.foldl_toList,Array.toList_zipIdx]
 have:=d8p off v.cells.toList 0 l (by simp[hs];omega)
 simp only[Nat.add_zero,Array.length_toList,hs] at this
 exact this
theorem d0m{E:Env}{s:a0h}{place:Nat→Option (Nat×Nat)}(hp:∀ i t,s.ftys[i]?=some t→place i=some (s.offs i,t.size)) :
  ∀ {ps:List (Nat×AV)} {vs:List (Nat×Value)} {cs cs':List AV} {l:List Value},c5h E s cs ps=some cs'→a0g (fun p q=>p.1=q.1∧VR c G lk w p.2 q.2) ps vs→a0g (C1 c G lk w) cs l →
   ∃ l',Instr.fill place l.toArray vs=some l'.toArray∧a0g (C1 c G lk w) cs' l'
 | [],[],cs,cs',l,h,_,hl=>by
  simp only[c5h,Option.some.injEq] at h
  subst h
  exact⟨l,rfl,hl⟩
 | (i,v)::ps,(j,x)::vs,cs,cs',l,h,hv,hl=>by
  obtain⟨⟨hij,hx⟩,hrest⟩:=hv
  have hij:i=j:=hij
  subst hij
  simp only[c5h] at h
  split at h
  ·rename_i τ hτ
   split at h
   ·rename_i new hnew
    split at h
    ·rename_i cs1 hput
     obtain⟨h1,_,h3⟩:=c0a hnew hx
     have hlen:=h1.length
     have hll:=hl.length
     unfold b6t at hput
     split at hput
     ·rename_i hb
      have hb:=Nat.le_of_ble_eq_true hb
      simp only[Option.some.injEq] at hput
      subst hput
      have hsz:x.cells.size=τ.size:=by rw[←h3,hlen];simp
      have hfit:s.offs i+τ.size≤l.length:=by omega
      rw[d3u place i _ _ x vs l (hp i τ hτ) hsz hfit]
      refine d0m hp h hrest ?_
      rw[List.append_assoc,←h3]
      exact (hl.take _).append (h1.append (hl.drop _))
     ·cases hput
    ·cases h
   ·cases h
  ·cases h
 | [],_::_,_,_,_,_,hv,_=>hv.elim
 | _::_,[],_,_,_,_,hv,_=>hv.elim
theorem c9e{τ:Ty}{place:Nat→Option (Nat×Nat)}(hp:∀ i,place i=some (i * τ.size,τ.size)) :
  ∀ {ps:List (Nat×AV)} {vs:List (Nat×Value)} {n:Nat} {xs:List τ.den} {l:List Value},b4c τ n ps=some xs→a0g (fun p q=>p.1=q.1∧VR c G lk w p.2 q.2) ps vs →
   (n+ps.length) * τ.size=l.length→∃ r,Instr.fill place l.toArray vs=some (l.take (n * τ.size)++r).toArray∧RdL w G.S (xs.map τ.toD) r
 | [],[],n,xs,l,h,_,hl=>by
  simp only[b4c,Option.some.injEq] at h
  subst h
  refine⟨[],?_,rfl⟩
  simp only[List.length_nil,Nat.add_zero] at hl
  rw[hl,List.take_length,List.append_nil]
  rfl
 | (i,v)::ps,(j,x)::vs,n,xs,l,h,hv,hl=>by
  obtain⟨⟨hij,hx⟩,hrest⟩:=hv
  have hij:i=j:=hij
  subst hij
  simp only[b4c] at h
  split at h
  ·rename_i hin
   have hin:=Nat.eq_of_beq_eq_true hin
   subst hin
   split at h
   ·rename_i y hy
    split at h
    ·rename_i ys hys
     simp only[Option.some.injEq] at h
     subst h
     have hr:=(d1g hy hx).cells
     have hsz:x.cells.size=τ.size:=by
      have:=Rd.length _ hr
      rw[show TV.toD ⟨τ,y⟩=τ.toD y from rfl,Ty.size_toD] at this
      simpa using this
     simp only[List.length_cons] at hl
     have hpos:=τ.size_pos
     have e1:(i+(ps.length+1)) * τ.size=i * τ.size+τ.size+ps.length * τ.size:=by
      rw[Nat.add_mul,Nat.add_mul];omega
     rw[d3u place i _ _ x vs l (hp i) hsz (by omega)]
     obtain⟨r,h1,h2⟩:=c9e hp (l:=l.take (i * τ.size)++x.cells.toList++l.drop (i * τ.size+τ.size)) hys hrest (by
      simp[hsz]
      rw[show (i+1+ps.length) * τ.size=i * τ.size+τ.size+ps.length * τ.size by rw[Nat.add_mul,Nat.add_mul];omega]
      omega)
     refine⟨x.cells.toList++r,?_,_,_,rfl,hr,h2⟩
     rw[h1]
     congr 2
     rw[show (i+1) * τ.size=i * τ.size+τ.size by rw[Nat.add_mul];omega]
     have ht:(l.take (i * τ.size)++x.cells.toList).length=i * τ.size+τ.size:=by simp[hsz];omega
     rw[←ht,List.take_left,List.append_assoc]
    ·cases h
   ·cases h
  ·cases h
 | [],_::_,_,_,_,_,hv,_=>hv.elim
 | _::_,[],_,_,_,_,hv,_=>hv.elim
theorem c3x{τ:Ty}:∀ {ps:List (Nat×AV)} {n:Nat} {xs:List τ.den},b4c τ n ps=some xs→xs.length=ps.length
 | [],n,xs,h=>by
  simp only[b4c,Option.some.injEq] at h
  subst h;rfl
 | (i,v)::ps,n,xs,h=>by
  simp only[b4c] at h
  split at h
  ·split at h
   ·split at h
    ·rename_i ys hys
     simp only[Option.some.injEq] at h
     subst h
     simp[c3x hys]
    ·cases h
   ·cases h
  ·cases h
theorem c4s(z:Array Value)(k:Nat):(madeCells z ((k+1) * z.size)).toList=(madeCells z (k * z.size)).toList++z.toList:=by
 apply List.ext_getElem?
 intro j
 have e:(k+1) * z.size=k * z.size+z.size:=by rw[Nat.add_mul];omega
 by_cases h1:j<k * z.size
 ·rw[List.getElem?_append_left (by simp[madeCells];exact h1)]
  have h2:j<(k+1) * z.size:=by omega
  simp[madeCells,h1,h2]
 ·by_cases h2:j<(k+1) * z.size
  ·rw[List.getElem?_append_right (by simp[madeCells];omega)]
   have h3:j - k * z.size<z.size:=by omega
   have hm:j % z.size=j - k * z.size:=by
    have h4:(j - k * z.size+z.size * k) % z.size=j - k * z.size:=by rw[Nat.add_mul_mod_self_left,Nat.mod_eq_of_lt h3]
    rwa [Nat.mul_comm z.size k,Nat.sub_add_cancel (Nat.le_of_not_lt h1)] at h4
   simp[madeCells,h2,hm,h3]
  ·rw[List.getElem?_append_right (by simp[madeCells];omega)]
   have h3:¬ j - k * z.size<z.size:=by omega
   simp[madeCells,h2]
   omega
theorem c9x{S:Nat→Prop}{d:D}{z:Array Value}(h:Rd w S d z.toList):∀ k:Nat,RdL w S (List.replicate k d) (madeCells z (k * z.size)).toList
 | 0=>by simp[madeCells,RdL,Array.range_zero']
 | k+1=>by
  rw[c4s,List.replicate_succ']
  exact RdL.append _ _ (c9x h k) ⟨z.toList,[],by simp,h,rfl⟩
theorem c4t(z:Array Value)(n m:Nat)(h:n≤m):(madeCells z m).toList.take n=(madeCells z n).toList:=by
 apply List.ext_getElem?
 intro j
 rw[List.getElem?_take]
 by_cases hj:j<n
 ·have:j<m:=by omega
  simp[madeCells,hj,this]
 ·simp[madeCells,hj]
end
end Go.Proofs.YtmdefiphdgcijaaDoor

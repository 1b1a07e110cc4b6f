/- The abstract machine: what the operations of a function do to typed data, without memory. 'awp' is its weakest precondition. -/
import Derived.Test.YtmdefiphdgcijaaDoorVmTypes
import Derived.Orders
namespace Go.Proofs.YtmdefiphdgcijaaDoor
noncomputable section
@[reducible] def FN:List Ty→Ty→Type
 | [],r=>Prop×r.den
 | t::ts,r=>t.den→FN ts r
structure FV where
 ps:List Ty
 r:Ty
 F:FN ps r
def FV.as(ps:List Ty)(r:Ty)(v:FV):Option (FN ps r):=if h:v.ps=ps then (if k:v.r=r then some (h ▸ k ▸ v.F) else none) else none
theorem FV.as_some{ps:List Ty}{r:Ty}{v:FV}{F:FN ps r}(h:v.as ps r=some F):v=⟨ps,r,F⟩:=by
 unfold FV.as at h
 split at h
 ·split at h
  ·rename_i e k
   obtain⟨ps',r',F'⟩:=v
   simp only at e k
   subst e k
   simp at h
   subst h
   rfl
  ·cases h
 ·cases h
@[simp] theorem FV.as_mk(ps:List Ty)(r:Ty)(F:FN ps r):FV.as ps r ⟨ps,r,F⟩=some F:=by simp[FV.as]
structure MV where
 κ:Ty
 ε:Ty
 f:κ.den→Option ε.den
 n:Nat
def MV.as(κ ε:Ty)(m:MV):Option ((κ.den→Option ε.den)×Nat):=if h:m.κ=κ then (if k:m.ε=ε then some (h ▸ k ▸ (m.f,m.n)) else none) else none
theorem MV.as_some{κ ε:Ty}{m:MV}{F:(κ.den→Option ε.den)×Nat}(h:m.as κ ε=some F):m=⟨κ,ε,F.1,F.2⟩:=by
 unfold MV.as at h
 split at h
 ·split at h
  ·rename_i e k
   obtain⟨κ',ε',f',n'⟩:=m
   simp only at e k
   subst e k
   simp at h
   subst h
   rfl
  ·cases h
 ·cases h
@[simp] theorem MV.as_mk(κ ε:Ty)(f:κ.den→Option ε.den)(n:Nat):MV.as κ ε ⟨κ,ε,f,n⟩=some (f,n):=by simp[MV.as]
def c3e{α β:Type}(f:α→Option β)(k:α)(v:β):α→Option β:=fun x => @ite _ (x=k) (Classical.propDecidable _) (some v) (f x)
def d0c{β:Type}(o:Option β)(n:Nat):Nat:=bif o.isSome then n else n+1
inductive AV where
 | any
 | undf
 | imm (v:TV)
 | nil
 | pimm (v:TV)
 | ptr (id off:Nat)
 | row (id:Nat)
 | rptr (id i off:Nat)
 | agg (cs:List AV)
 | tup (vs:List AV)
 | fn (f:FuncId)
 | tree (id:Nat)
 | sub (id i off sz:Nat)
 | tptr (id i off sz:Nat)
 | clo (f:FuncId) (cs:List AV)
 | fun_ (v:FV)
 | mp (id:Nat)
inductive a0d where
 | box (cs:List AV)
 | row (e:TypeId) (τ:Ty) (xs:List τ.den)
 | tree (τ:Ty) (xs:List τ.den)
 | map (m:MV)
structure a0c where
 slots:List AV
 objs:List (Nat×a0d)
inductive Arg where
 | val (v:TV)
 | ref (v:TV)
 | fn (f:FuncId)
 | clo (v:FV)
 | own (v:TV)
 | box (k:Nat)
inductive CK where
 | d (τ:Ty)
 | o (τ:Ty)
 | p (k:Nat)
structure SK where
 ps:List (Option Nat)
 sh:List (List CK)
def a0f{α:Type}:List (Nat×α)→Nat→Option α
 | [],_=>none
 | (k,v)::r,n=>match Nat.beq k n with
  | true=>some v
  | false=>a0f r n
abbrev Vc:=Option Prop
def Vc.ok:Vc→Prop
 | .none=>True
 | .some p=>p
def Vc.and(v:Vc)(K:Prop):Prop:=match v with
 | .none=>K
 | .some p=>p∧K
theorem Vc.and_ok{v:Vc}{K:Prop}(h:v.and K):v.ok∧K:=by
 cases v with
 | none=>exact⟨trivial,h⟩
 | some p=>exact h
structure b7v where
 τ:Ty
 g:τ.den→Int→Vc×τ.den×Int
structure c2o where
 ps:List Ty
 r:Ty
 caps:List (Bool×Ty)
def Arg.solid:Arg→Bool
 | .ref _ | .clo _ | .box _=>false
 | _=>true
inductive e0j where
 | box (cells:List TV)
 | row (e:TypeId) (τ:Ty) (xs:List τ.den)
structure Env where
 ty:List (Nat×Ty×Nat×Nat)
 pty:List (Nat×Ty)
 ctr:Nat→List Arg→Option (Vc×List TV)
 wr:List Nat:=[]
 own:List Nat:=[]
 octr:Nat→List Arg→Option (Vc×List TV):=fun _ _=>none
 mark:Nat→Option b7v:=fun _=>none
 clo:Nat→Option c2o:=fun _=>none
 ro:List Nat:=[]
 tk:Nat→List Bool:=fun _=>[]
 sk:Nat→Option SK:=fun _=>none
 sctr:Nat→List Arg→List (List TV)→Option (Vc×List TV×List (List TV)):=fun _ _ _=>none
 mty:List (Nat×Ty×Ty):=[]
 nctr:Nat→List Arg→Option (Vc×e0j):=fun _ _=>none
def a0c.look(s:a0c)(id:Nat):Option a0d:=YtmdefiphdgcijaaDoor.a0f s.objs id
def d7k(k:IntKind)(n:Int):Bool :=
 match n with
 | .ofNat m=>match k with
  | .i64=>Nat.ble m 9223372036854775807
  | .u64=>Nat.ble m 18446744073709551615
  | .u8=>Nat.ble m 255
  | _=>Nat.ble m 127
 | .negSucc m=>match k with
  | .i64=>Nat.ble m 9223372036854775807
  | _=>false
def c8v:Value→AV
 | .int k n=>match d7k k n with
  | true => .imm ⟨.int k,n⟩
  | false => .any
 | .bool b => .imm ⟨.bool,b⟩
 | .string s=>match Nat.ble s.data.size 1000000 with
  | true => .imm ⟨.str,s.data.toList⟩
  | false => .any
 | .slice none 0 0 => .nil
 | _ => .any
def e2t:Value→AV
 | .agg cs => .agg (cs.toList.map c8v)
 | v=>c8v v
def a0c.eval(s:a0c):Operand→AV
 | .tmp t=>s.slots.getD t .any
 | .const v=>e2t v
 | .func f => .fn f
 | .global _ => .any
def a5q(lk:Nat→Option a0d)(τ:Ty):AV→Option τ.den
 | .imm v=>v.as τ
 | .nil=>match τ with
  | .slice _=>some []
  | _=>none
 | .row id=>match lk id with
  | some (.row _ τ' xs)=>TV.as τ ⟨.slice τ',xs⟩
  | _=>none
 | .tree id=>match lk id with
  | some (.tree τ' xs)=>TV.as τ ⟨.slice τ',xs⟩
  | _=>none
 | _=>none
def c6v(lk:Nat→Option a0d)(id:Nat):Option a0d:=match lk id with
 | some (.tree _ _)=>none
 | o=>o
def d4y(lk:Nat→Option a0d):List AV→List Ty→Option (List TV)
 | [],[]=>some []
 | c::cs,t::ts=>match a5q lk t c with
  | some x=>match d4y lk cs ts with
   | some r=>some (⟨t,x⟩::r)
   | none=>none
  | none=>none
 | _,_=>none
def asT(lk:Nat→Option a0d)(τ:Ty):AV→Option τ.den
 | .agg cs=>match τ with
  | .st s=>match d4y lk cs s.ctys with
   | some l=>s.ofCells l
   | none=>none
  | _=>none
 | v=>a5q lk τ v
def AV.cell:AV→Bool
 | .any | .undf | .agg _ | .tup _ | .sub .. | .tptr .. | .clo .. | .fun_ .. => false
 | .imm v=>match v.τ with
  | .st _=>false
  | _=>true
 | _=>true
def a7l(τ:Ty)(v:AV):Option (List AV) :=
 match τ with
 | .st s=>match v with
  | .imm x=>match x.as (.st s) with
   | some y=>some ((s.cells y).map .imm)
   | none=>none
  | .agg cs=>match Nat.beq cs.length s.size&&cs.all AV.cell with
   | true=>some cs
   | false=>none
  | _=>none
 | _=>match v.cell with
  | true=>some [v]
  | false=>none
def c6g(cs:List AV)(off:Nat)(τ:Ty):Option AV :=
 match τ with
 | .st s=>match Nat.ble (off+s.size) cs.length with
  | true=>some (.agg ((cs.drop off).take s.size))
  | false=>none
 | _=>cs[off]?
def b6t(cs:List AV)(off:Nat)(new:List AV):Option (List AV) :=
 match Nat.ble (off+new.length) cs.length with
 | true=>some (cs.take off++(new++cs.drop (off+new.length)))
 | false=>none
def TV.part(v:TV)(off:Nat)(τ:Ty):Option TV :=
 match Nat.beq off 0&&decide (v.τ=τ) with
 | true=>some v
 | false=>match v.cells[off]? with
  | some u=>match decide (u.τ=τ) with
   | true=>some u
   | false=>none
  | none=>none
def b2q(lk:Nat→Option a0d)(τ:Ty):AV→Option AV
 | .pimm v=>match decide (v.τ=τ) with
  | true=>some (.imm v)
  | false=>none
 | .ptr id off=>match lk id with
  | some (.box cs)=>c6g cs off τ
  | _=>none
 | .rptr id i off=>match lk id with
  | some (.row _ τ' xs)=>match TV.part ⟨τ',xs.getD i τ'.zero⟩ off τ with
   | some u=>some (.imm u)
   | none=>none
  | _=>none
 | _=>none
def c1t(lk:Nat→Option a0d)(τ:Ty)(v:AV):Option τ.den :=
 match b2q lk τ v with
 | some u=>asT lk τ u
 | none=>none
def a0h.offs(s:a0h)(i:Nat):Nat:=((s.ftys.take i).map Ty.size).sum
def b3u(τ:Ty):AV :=
 match τ with
 | .slice _ => .nil
 | τ => .imm ⟨τ,τ.zero⟩
def a4z(τ:Ty):List AV :=
 match τ with
 | .st s=>s.ctys.map b3u
 | τ=>[b3u τ]
def b9z(lk:Nat→Option a0d):List (Bool×Ty)→List AV→Option (List Arg)
 | [],[]=>some []
 | (true,τ)::ks,v::vs=>match c1t lk τ v with
  | some x=>match b9z lk ks vs with
   | some r=>some (.ref ⟨τ,x⟩::r)
   | none=>none
  | none=>none
 | (false,τ)::ks,v::vs=>match asT lk τ v with
  | some x=>match b9z lk ks vs with
   | some r=>some (.val ⟨τ,x⟩::r)
   | none=>none
  | none=>none
 | _,_=>none
def d3p(E:Env)(f:FuncId)(caps:List Arg):(ps:List Ty)→(r:Ty)→List Arg→FN ps r
 | [],r,acc=>match E.ctr f (acc++caps) with
  | some (pre,[v])=>match v.as r with
   | some y=>(pre.ok,y)
   | none=>(False,r.zero)
  | _=>(False,r.zero)
 | t::ts,r,acc=>fun x=>d3p E f caps ts r (acc++[.val ⟨t,x⟩])
def b2y:(ps:List Ty)→(r:Ty)→FN ps r→List Arg→Option (Prop×r.den)
 | [],_,F,[]=>some F
 | t::ts,r,F, .val a::zs=>match a.as t with
  | some x=>b2y ts r (F x) zs
  | none=>none
 | _,_,_,_=>none
def c8x(E:Env)(lk:Nat→Option a0d):AV→Option FV
 | .clo f cs=>match E.clo f with
  | some k=>match b9z lk k.caps cs with
   | some as=>some ⟨k.ps,k.r,d3p E f as k.ps k.r []⟩
   | none=>none
  | none=>none
 | .fun_ v=>some v
 | .fn f=>match E.clo f with
  | some k=>match k.caps with
   | []=>some ⟨k.ps,k.r,d3p E f [] k.ps k.r []⟩
   | _=>none
  | none=>none
 | _=>none
def d4w(E:Env)(lk:Nat→Option a0d)(T:TypeId)(v:AV):Option Arg :=
 match a0f E.ty T with
 | some (τ,_)=>match asT lk τ v with
  | some x=>some (.val ⟨τ,x⟩)
  | none=>none
 | none=>match a0f E.pty T with
  | some τ=>match c1t lk τ v with
   | some x=>some (.ref ⟨τ,x⟩)
   | none=>none
  | none=>match c8x E lk v with
   | some q=>some (.clo q)
   | none=>match v with
    | .fn f=>some (.fn f)
    | _=>none
def a8u(E:Env)(lk:Nat→Option a0d):List TypeId→List AV→Option (List Arg)
 | [],[]=>some []
 | T::Ts,v::vs=>match d4w E lk T v with
  | some x=>match a8u E lk Ts vs with
   | some r=>some (x::r)
   | none=>none
  | none=>none
 | _,_=>none
def b9d:List TV→AV
 | [v] => .imm v
 | vs => .tup (vs.map .imm)
def a0e(n:Int):Prop := -9223372036854775808≤n∧n≤9223372036854775807
def a3d(k:IntKind)(n:Int):Prop :=
 match k with
 | .i64=>a0e n
 | k=>k.min≤n∧n≤k.max
def a0j(n:Int)(len:Nat):Prop:=0≤n∧n<(len:Int)
def a7d(l h:Int)(len:Nat):Prop:=0≤l∧l≤h∧h≤(len:Int)
def c4u(n m:Int)(b:Nat):Prop:=0≤n∧n≤m∧m * ((b:Int)+1)≤140737488355328
def a2d(n b:Nat):Prop:=n * (b+1)≤140737488355328
def e0g(op:BinOp)(k:IntKind)(a b:Int):Option (Vc×Int) :=
 match op with
 | .add=>match k with
  | .u64=>some (.none,IntKind.u64.wrap (a+b))
  | k=>some (.some (a3d k (a+b)),a+b)
 | .sub=>some (.some (a3d k (a - b)),a - b)
 | .mul=>match k with
  | .u64=>some (.none,IntKind.u64.wrap (a * b))
  | k=>some (.some (a3d k (a * b)),a * b)
 | .quo=>some (.some (b≠0∧a3d k (a.tdiv b)),a.tdiv b)
 | .rem=>some (.some (b≠0∧a3d k (a.tmod b)),a.tmod b)
 | .shl=>some (.some (0≤b∧b<k.bits∧a3d k (a * 2 ^ b.toNat)),a * 2 ^ b.toNat)
 | .shr=>some (.some (0≤b∧b<k.bits∧a3d k (a.fdiv (2 ^ b.toNat))),a.fdiv (2 ^ b.toNat))
 | .and=>some (.some (0≤a∧0≤b∧a3d k a∧a3d k b),((a.toNat &&& b.toNat:Nat):Int))
 | _=>none
def cmp(op:BinOp)(a b:Int):Option Bool :=
 match op with
 | .eql=>some (decide (a=b))
 | .neq=>some (!decide (a=b))
 | .lss=>some (decide (a<b))
 | .leq=>some (decide (a≤b))
 | .gtr=>some (decide (b<a))
 | .geq=>some (decide (b≤a))
 | _=>none
def e0q(wr:Bool)(op:BinOp)(k:IntKind)(a b:Int):Option (Vc×Int) :=
 match wr with
 | true=>match op with
  | .add=>some (.none,k.wrap (a+b))
  | .sub=>some (.none,k.wrap (a - b))
  | .mul=>some (.none,k.wrap (a * b))
  | op=>e0g op k a b
 | false=>e0g op k a b
def e3r(tb wr:Bool)(op:BinOp)(u v:AV):Option (Vc×AV) :=
 match u,v with
 | .imm ⟨.int k,a⟩, .imm ⟨.int k',b⟩=>match e0q wr op k a b with
  | some (p,r)=>match op with
   | .shl | .shr=>some (p, .imm ⟨.int k,r⟩)
   | _=>match decide (k=k') with
    | true=>some (p, .imm ⟨.int k,r⟩)
    | false=>none
  | none=>match decide (k=k') with
   | true=>match cmp op a b with
    | some c=>some (.none, .imm ⟨.bool,c⟩)
    | none=>none
   | false=>none
 | .imm ⟨.bool,a⟩, .imm ⟨.bool,b⟩=>match tb with
  | true=>match op with
   | .eql=>some (.none, .imm ⟨.bool,a == b⟩)
   | .neq=>some (.none, .imm ⟨.bool,!(a == b)⟩)
   | _=>none
  | false=>none
 | .imm ⟨.str,a⟩, .imm ⟨.str,b⟩=>match op with
  | .eql=>some (.none, .imm ⟨.bool,decide (a=b)⟩)
  | .neq=>some (.none, .imm ⟨.bool,!decide (a=b)⟩)
  | .add=>some (.some (a.length+b.length≤140737488355328), .imm ⟨.str,a++b⟩)
  | _=>none
 | _,_=>none
def c5h(E:Env)(s:a0h)(cs:List AV):List (Nat×AV)→Option (List AV)
 | []=>some cs
 | (i,v)::r=>match s.ftys[i]? with
  | some τ=>match a7l τ v with
   | some new=>match b6t cs (s.offs i) new with
    | some cs'=>c5h E s cs' r
    | none=>none
   | none=>none
  | none=>none
def b4c(τ:Ty):Nat→List (Nat×AV)→Option (List τ.den)
 | _,[]=>some []
 | n,(i,v)::r=>match Nat.beq i n with
  | true=>match asT (fun _=>none) τ v with
   | some x=>match b4c τ (n+1) r with
    | some xs=>some (x::xs)
    | none=>none
   | none=>none
  | false=>none
def TV.flat(v:TV):Bool:=v.cells.all fun u=>match u.τ with
 | .slice _=>false
 | .mv _=>false
 | _=>true
def b1g(d:Int):Option AV→Option Int
 | none=>some d
 | some (.imm ⟨.int _,n⟩)=>some n
 | _=>none
def b2t(lk:Nat→Option a0d)(id:Nat):Option a0d:=match lk id with
 | some (.box cs)=>some (.box cs)
 | _=>none
def c3w(E:Env)(lk:Nat→Option a0d)(f:FuncId)(Ts:List TypeId)(vs:List AV):Option (Vc×AV×Option a0d) :=
 match a8u E (b2t lk) Ts vs with
 | some as=>match E.ctr f as with
  | some (pre,res)=>some (pre,b9d res,none)
  | none=>none
 | none=>match a8u E lk Ts vs with
  | some as=>match E.ctr f as with
   | some (pre,res)=>match res.all TV.flat with
    | true=>some (pre,b9d res,none)
    | false=>none
   | none=>none
  | none=>none
def b9j(E:Env)(lk:Nat→Option a0d)(g:AV)(Ts:List TypeId)(vs:List AV):Option (Vc×AV×Option a0d) :=
 match (match a8u E (b2t lk) Ts vs with
  | some as=>match c8x E (b2t lk) g with
   | some q=>match b2y q.ps q.r q.F as with
    | some (pre,y)=>some (some pre,b9d [⟨q.r,y⟩],none)
    | none=>none
   | none=>none
  | none=>none) with
 | some r=>some r
 | none=>match a8u E lk Ts vs with
  | some as=>match c8x E lk g with
   | some q=>match b2y q.ps q.r q.F as with
    | some (pre,y)=>match TV.flat ⟨q.r,y⟩ with
     | true=>some (some pre,b9d [⟨q.r,y⟩],none)
     | false=>none
    | none=>none
   | none=>none
  | none=>none
def AV.capOk:AV→Bool
 | .undf | .tup _ | .clo .. | .fun_ .. | .sub .. | .tptr .. => false
 | _=>true
def qop(E:Env)(lk:Nat→Option a0d)(ev:Operand→AV)(o:Oper):Option (Vc×AV×Option a0d) :=
 match o.op with
 | .move x=>some (.none,ev x,none)
 | .assign x=>some (.none,ev x,none)
 | .pick c a b=>match ev c with
  | .imm ⟨.bool,true⟩=>some (.none,ev a,none)
  | .imm ⟨.bool,false⟩=>some (.none,ev b,none)
  | _=>none
 | .alloc T=>match o.dst,a0f E.ty T with
  | some d,some (τ,_)=>some (.none, .ptr d 0,some (.box (a4z τ)))
  | _,_=>none
 | .box T x=>match o.dst,a0f E.ty T with
  | some d,some (τ,_)=>match E.ro.contains d with
   | true=>match asT (fun _=>none) τ (ev x) with
    | some y=>some (.none, .pimm ⟨τ,y⟩,none)
    | none=>none
   | false=>match a7l τ (ev x) with
    | some cs=>some (.none, .ptr d 0,some (.box cs))
    | none=>none
  | _,_=>none
 | .build T parts=>match a0f E.ty T with
  | some (.st n,_)=>match c5h E n (a4z (.st n)) (parts.toList.map fun p=>(p.1,ev p.2)) with
   | some cs=>some (.none, .agg cs,none)
   | none=>none
  | _=>none
 | .buildSlice T len parts=>match o.dst,a0f E.ty T with
  | some d,some (.slice τ,_,e)=>match Nat.beq parts.size len&&Nat.ble len 1000 with
   | true=>match b4c τ 0 (parts.toList.map fun p=>(p.1,ev p.2)) with
    | some xs=>match E.ro.contains d with
     | true=>some (.none, .imm ⟨.slice τ,xs⟩,none)
     | false=>some (.none, .row d,some (.row e τ xs))
    | none=>none
   | false=>none
  | _,_=>none
 | .load T a=>match a0f E.ty T with
  | some (τ,_)=>match b2q lk τ (ev a) with
   | some v=>some (.none,v,none)
   | none=>none
  | none=>none
 | .nilCheck x=>match ev x with
  | .pimm v=>some (.none, .pimm v,none)
  | .ptr id off=>some (.none, .ptr id off,none)
  | .rptr id i off=>some (.none, .rptr id i off,none)
  | _=>none
 | .fieldAddr T x i=>match a0f E.ty T with
  | some (.st n,_)=>match ev x with
   | .pimm v=>match v.as (.st n) with
    | some y=>match (n.fields y)[i]? with
     | some f=>some (.none, .pimm f,none)
     | none=>none
    | none=>none
   | .ptr id off=>match Nat.blt i n.ftys.length with
    | true=>some (.none, .ptr id (off+n.offs i),none)
    | false=>none
   | .rptr id k off=>match Nat.blt i n.ftys.length with
    | true=>some (.none, .rptr id k (off+n.offs i),none)
    | false=>none
   | _=>none
  | _=>none
 | .field T x i=>match a0f E.ty T with
  | some (.st n,_)=>match ev x with
   | .imm v=>match v.as (.st n) with
    | some y=>match (n.fields y)[i]? with
     | some f=>some (.none, .imm f,none)
     | none=>none
    | none=>none
   | .agg cs=>match n.ftys[i]? with
    | some τ=>match c6g cs (n.offs i) τ with
     | some v=>some (.none,v,none)
     | none=>none
    | none=>none
   | _=>none
  | _=>none
 | .indexAddr T x ix=>match a0f E.ty T with
  | some (.slice τ,_)=>match ev ix with
   | .imm ⟨.int _,n⟩=>match ev x with
    | .imm v=>match v.as (.slice τ) with
     | some xs=>some (.some (a0j n xs.length), .pimm ⟨τ,xs.getD n.toNat τ.zero⟩,none)
     | none=>none
    | .row id=>match lk id with
     | some (.row _ τ' xs)=>match decide (τ'=τ) with
      | true=>some (.some (a0j n xs.length), .rptr id n.toNat 0,none)
      | false=>none
     | _=>none
    | _=>none
   | _=>none
  | _=>none
 | .index T x ix=>match a0f E.ty T with
  | some (.str,_)=>match ev ix with
   | .imm ⟨.int _,n⟩=>match ev x with
    | .imm ⟨.str,xs⟩=>some (.some (a0j n xs.length), .imm ⟨.int .u8,((xs.getD n.toNat 0).toNat:Int)⟩,none)
    | _=>none
   | _=>none
  | _=>none
 | .binOp op T x y _=>match e3r (match a0f E.ty T with
   | some (.bool,_)=>true
   | _=>false) (match o.dst with
   | some d=>E.wr.contains d
   | none=>false) op (ev x) (ev y) with
  | some (p,v)=>some (p,v,none)
  | none=>none
 | .unOp op _ x=>match op,ev x with
  | .not, .imm ⟨.bool,b⟩=>some (.none, .imm ⟨.bool,!b⟩,none)
  | .neg, .imm ⟨.int k,n⟩=>some (.some (a3d k (-n)), .imm ⟨.int k,-n⟩,none)
  | _,_=>none
 | .convert src dst x=>match a0f E.ty src,a0f E.ty dst with
  | some (.int _,_),some (.int k,_)=>match ev x with
   | .imm ⟨.int _,n⟩=>some (.some (a3d k n), .imm ⟨.int k,n⟩,none)
   | _=>none
  | _,_=>none
 | .slice T x lo hi mx=>match a0f E.ty T,mx with
  | some (.slice τ,_),none=>match ev x with
   | .imm v=>match v.as (.slice τ) with
    | some xs=>match b1g 0 (lo.map ev),b1g (xs.length:Int) (hi.map ev) with
     | some l,some h=>some (.some (a7d l h xs.length), .imm ⟨.slice τ,(xs.take h.toNat).drop l.toNat⟩,none)
     | _,_=>none
    | none=>none
   | _=>none
  | some (.str,_),none=>match ev x with
   | .imm ⟨.str,xs⟩=>match b1g 0 (lo.map ev),b1g (xs.length:Int) (hi.map ev) with
    | some l,some h=>some (.some (a7d l h xs.length), .imm ⟨.str,(xs.take h.toNat).drop l.toNat⟩,none)
    | _,_=>none
   | _=>none
  | _,_=>none
 | .extract t i=>match ev t with
  | .tup vs=>match vs[i]? with
   | some v=>some (.none,v,none)
   | none=>none
  | _=>none
 | .makeSlice T l c=>match o.dst,a0f E.ty T with
  | some d,some (.slice τ,b,e)=>match ev l,ev c with
   | .imm ⟨.int .i64,n⟩, .imm ⟨.int .i64,m⟩=>some (.some (c4u n m b), .row d,some (.row e τ (List.replicate n.toNat τ.zero)))
   | _,_=>none
  | _,_=>none
 | .call c=>match c.callee with
  | .builtin .len=>match c.argTypes.toList,c.args.toList.map ev with
   | [T],[v]=>match a0f E.ty T with
    | some (.slice _,_)=>match v with
     | .nil=>some (.none, .imm ⟨.int .i64,(0:Int)⟩,none)
     | .imm ⟨.slice _,xs⟩=>some (.none, .imm ⟨.int .i64,(xs.length:Int)⟩,none)
     | .row id=>match lk id with
      | some (.row _ _ xs)=>some (.none, .imm ⟨.int .i64,(xs.length:Int)⟩,none)
      | _=>none
     | _=>none
    | some (.str,_)=>match v with
     | .imm ⟨.str,xs⟩=>some (.none, .imm ⟨.int .i64,(xs.length:Int)⟩,none)
     | _=>none
    | none=>match v,a0f E.mty T with
     | .mp _,some _=>none
     | _,_=>none
    | _=>none
   | _,_=>none
  | .builtin .append=>match o.dst,c.argTypes.toList with
   | some d,[T,T']=>match Nat.beq T T',a0f E.ty T with
    | true,some (.slice τ,b,e)=>match c.args.toList.map ev with
     | [.nil,y]=>match a5q (c6v lk) (.slice τ) y with
      | some ys=>some (.some (a2d ys.length b), .row d,some (.row e τ ys))
      | none=>none
     | _=>none
    | _,_=>none
   | _,_=>none
  | .value (.func f)=>c3w E lk f c.argTypes.toList (c.args.toList.map ev)
  | .value (.tmp t)=>match ev (.tmp t) with
   | .fn f=>c3w E lk f c.argTypes.toList (c.args.toList.map ev)
   | .clo f cs=>b9j E lk (.clo f cs) c.argTypes.toList (c.args.toList.map ev)
   | .fun_ v=>b9j E lk (.fun_ v) c.argTypes.toList (c.args.toList.map ev)
   | _=>none
  | _=>none
 | .makeMap _ none=>none
 | .lookup _ _ _ _=>none
 | .makeFunc fn first captured=>match fn,first.toList,(captured.toList.map ev).all AV.capOk with
  | .func f,[],true=>match captured.toList.map ev with
   | []=>some (.none, .fn f,none)
   | cs=>some (.none, .clo f cs,none)
  | _,_,_=>none
 | _=>none
mutual
def AV.refs(id:Nat):AV→Bool
 | .ptr i _=>Nat.beq i id
 | .row i=>Nat.beq i id
 | .rptr i _ _=>Nat.beq i id
 | .tree i=>Nat.beq i id
 | .sub i _ _ _=>Nat.beq i id
 | .tptr i _ _ _=>Nat.beq i id
 | .mp i=>Nat.beq i id
 | .agg cs=>AV.refsL id cs
 | .tup cs=>AV.refsL id cs
 | .clo _ cs=>AV.refsL id cs
 | _=>false
def AV.refsL(id:Nat):List AV→Bool
 | []=>false
 | v::r=>match AV.refs id v with
  | true=>true
  | false=>AV.refsL id r
end
def AV.kill(id:Nat)(v:AV):AV:=match v.refs id with
 | true => .any
 | false=>v
def a0d.kill(id:Nat):a0d→a0d
 | .box cs => .box (cs.map (AV.kill id))
 | o=>o
def a0c.sweep(s:a0c)(id:Nat):a0c :=
 { slots:=s.slots.map (AV.kill id),objs:=s.objs.map fun p=>(p.1,p.2.kill id) }
def a0v(id:Nat):List (Nat×a0d)→List (Nat×a0d)
 | []=>[]
 | (k,o)::r=>match Nat.beq k id with
  | true=>a0v id r
  | false=>(k,o)::a0v id r
def a0c.put(s:a0c)(d:Option Nat)(v:AV):a0c :=
 match d with
 | some d=>{ s with slots:=s.slots.set d v }
 | none=>s
def a0c.lay(s:a0c)(d:Option Nat)(v:AV)(o:Option a0d):a0c :=
 match o,d with
 | some o,some d =>
  let s':=s.sweep d
  { slots:=s'.slots.set d v,objs:=(d,o.kill d)::a0v d s'.objs }
 | _,d=>s.put d v
mutual
def AV.rows:AV→List Nat
 | .row i=>[i]
 | .agg cs=>AV.rowsL cs
 | _=>[]
def AV.rowsL:List AV→List Nat
 | []=>[]
 | v::r=>AV.rows v++AV.rowsL r
end
def e0p(s:a0c)(v:AV):List Nat :=
 match v with
 | .ptr id _=>match s.look id with
  | some (.box cs)=>AV.rowsL cs
  | _=>[]
 | v=>v.rows
def e9h(s:a0c)(v:AV):List Nat :=
 match v with
 | .clo _ cs=>cs.flatMap (e0p s)
 | v=>e0p s v
def a8n(E:Env)(s:a0c)(o:Oper):List Nat :=
 match (match o.dst with
  | some d=>E.own.contains d
  | none=>false) with
 | true=>[]
 | false=>match o.op with
 | .buildSlice _ _ parts=>parts.toList.flatMap fun p=>(s.eval p.2).rows
 | .slice _ x _ _ _=>(s.eval x).rows
 | .store _ a x=>match s.eval a with
  | .rptr _ _ _=>(s.eval x).rows
  | _=>[]
 | .call c=>match c.callee with
  | .value _=>match E.ctr (match c.callee with
    | .value (.func f)=>f
    | .value (.tmp t)=>match s.eval (.tmp t) with
     | .fn f=>f
     | _=>0
    | _=>0) (match a8u E s.look c.argTypes.toList (c.args.toList.map s.eval) with
     | some as=>as
     | none=>[]) with
   | some (_,res)=>match res.all TV.flat with
    | true=>[]
    | false=>c.args.toList.flatMap fun x=>e9h s (s.eval x)
   | none=>[]
  | _=>[]
 | _=>[]
mutual
def AV.frz(id:Nat)(u:AV):AV→AV
 | .row i=>match Nat.beq i id with
  | true=>u
  | false => .row i
 | .rptr i k off=>match Nat.beq i id with
  | true => .any
  | false => .rptr i k off
 | .agg cs => .agg (AV.frzL id u cs)
 | .tup cs => .tup (AV.frzL id u cs)
 | .clo f cs => .clo f (AV.frzL id u cs)
 | v=>v
def AV.frzL(id:Nat)(u:AV):List AV→List AV
 | []=>[]
 | v::r=>AV.frz id u v::AV.frzL id u r
end
def a0d.frz(id:Nat)(u:AV):a0d→a0d
 | .box cs => .box (AV.frzL id u cs)
 | o=>o
mutual
def AV.frt(id:Nat)(u:AV):AV→AV
 | .tree i=>match Nat.beq i id with
  | true=>u
  | false => .tree i
 | .sub i k off z=>match Nat.beq i id with
  | true => .any
  | false => .sub i k off z
 | .tptr i k off z=>match Nat.beq i id with
  | true => .any
  | false => .tptr i k off z
 | .agg cs => .agg (AV.frtL id u cs)
 | .tup cs => .tup (AV.frtL id u cs)
 | .clo f cs => .clo f (AV.frtL id u cs)
 | v=>v
def AV.frtL(id:Nat)(u:AV):List AV→List AV
 | []=>[]
 | v::r=>AV.frt id u v::AV.frtL id u r
end
def a0d.frt(id:Nat)(u:AV):a0d→a0d
 | .box cs => .box (AV.frtL id u cs)
 | o=>o
def a0c.freeze(s:a0c)(id:Nat):a0c :=
 match s.look id with
 | some (.row _ τ xs) =>
  { slots:=AV.frzL id (.imm ⟨.slice τ,xs⟩) s.slots,objs:=(a0v id s.objs).map fun p=>(p.1,p.2.frz id (.imm ⟨.slice τ,xs⟩)) }
 | some (.tree τ xs) =>
  { slots:=AV.frtL id (.imm ⟨.slice τ,xs⟩) s.slots,objs:=(a0v id s.objs).map fun p=>(p.1,p.2.frt id (.imm ⟨.slice τ,xs⟩)) }
 | _=>s
def e1o(_:Env)(_:a0c)(_:Option Nat)(_:TypeId)(_ _ _:Operand):Option (Vc×a0c):=none
def eop(E:Env)(s:a0c)(o:Oper):Option (Vc×a0c) :=
 match o.op with
 | .mapUpdate T m k x=>e1o E s o.dst T m k x
 | .insert T m k x=>e1o E s o.dst T m k x
 | .store T a x=>match a0f E.ty T with
  | some (τ,_)=>match s.eval a with
   | .ptr id off=>match s.look id with
    | some (.box cs)=>match a7l τ (s.eval x) with
     | some new=>match b6t cs off new with
      | some cs'=>some (.none,{ s with objs:=(id, .box cs')::a0v id s.objs }.put o.dst .any)
      | none=>none
     | none=>none
    | _=>none
   | .rptr id i 0=>match s.look id with
    | some (.row e' τ' xs)=>match decide (τ'=τ),asT (fun _=>none) τ' (s.eval x) with
     | true,some x=>some (.none,{ s with objs:=(id, .row e' τ' (xs.set i x))::a0v id s.objs }.put o.dst .any)
     | _,_=>none
    | _=>none
   | _=>none
  | none=>none
 | .call c=>match c.callee with
  | .builtin .append=>match o.dst,c.argTypes.toList with
   | some d,[T,T']=>match Nat.beq T T',a0f E.ty T with
    | true,some (.slice τ,b,e)=>match c.args.toList.map s.eval with
     | [.row id,y]=>match s.look id,a5q (c6v s.look) (.slice τ) y with
      | some (.row e' τ' xs),some ys=>match Nat.beq e' e,TV.as (.slice τ) ⟨.slice τ',xs⟩ with
       | true,some xs' =>
        let s':=s.sweep id
        some (.some (a2d (xs'.length+ys.length) b),{ slots:=s'.slots.set d (.row id),objs:=(id, .row e τ (xs'++ys))::a0v id s'.objs })
       | _,_=>none
      | _,_=>none
     | _=>none
    | _,_=>none
   | _,_=>none
  | _=>none
 | _=>none
def a4a:List Nat→Bool
 | []=>true
 | a::r=>match r.contains a with
  | true=>false
  | false=>a4a r
def a1i:Option a0d→Bool
 | some (.tree ..)=>true
 | _=>false
def a7s(id:Nat):TV→AV
 | ⟨.slice _,_⟩ => .tree id
 | ⟨.mv _,_⟩ => .any
 | u => .imm u
def a4j(id:Nat):TV→List (Nat×a0d)
 | ⟨.slice τ,xs⟩=>[(id, .tree τ xs)]
 | _=>[]
def a1z:Nat→List TV→List AV
 | _,[]=>[]
 | id,u::r=>a7s id u::a1z (id+1) r
def a1d:Nat→List TV→List (Nat×a0d)
 | _,[]=>[]
 | id,u::r=>a4j id u++a1d (id+1) r
def a3j(id:Nat):TV→AV
 | ⟨.st s,y⟩ => .agg (a1z id (s.cells y))
 | v=>a7s id v
def d1t:Nat→List TV→List AV
 | _,[]=>[]
 | id,v::r=>a3j id v::d1t (id+20) r
def a0o:Nat→List TV→List (Nat×a0d)
 | _,[]=>[]
 | id,v::r=>a1d id v.cells++a0o (id+20) r
def a6p(id:Nat):List TV→AV
 | [v]=>a3j id v
 | vs => .tup (d1t id vs)
def Ty.agg:Ty→Bool
 | .st _=>true
 | _=>false
def Ty.scal:Ty→Bool
 | .int _ | .bool | .str | .ptr=>true
 | _=>false
def Ty.key:Ty→Bool
 | .int _ | .bool | .str=>true
 | _=>false
def Ty.plain:Ty→Bool
 | .st s=>s.ctys.all Ty.scal
 | .slice _=>false
 | .mv _=>false
 | _=>true
def a2i(lk:Nat→Option a0d)(τ:Ty):AV→Option (τ.den×List Nat)
 | .imm v=>match τ.scal,v.as τ with
  | true,some y=>some (y,[])
  | _,_=>none
 | .nil=>match τ with
  | .slice _=>some ([],[])
  | _=>none
 | .tree id=>match lk id with
  | some (.tree τ' xs)=>match TV.as τ ⟨.slice τ',xs⟩ with
   | some y=>some (y,[id])
   | none=>none
  | _=>none
 | .row id=>match lk id with
  | some (.row _ τ' xs)=>match τ'.plain,TV.as τ ⟨.slice τ',xs⟩ with
   | true,some y=>some (y,[id])
   | _,_=>none
  | _=>none
 | _=>none
def b2v(lk:Nat→Option a0d):List AV→List Ty→Option (List TV×List Nat)
 | [],[]=>some ([],[])
 | c::cs,t::ts=>match a2i lk t c with
  | some (x,i)=>match b2v lk cs ts with
   | some (r,j)=>some (⟨t,x⟩::r,i++j)
   | none=>none
  | none=>none
 | _,_=>none
def b0q(lk:Nat→Option a0d)(τ:Ty):AV→Option (τ.den×List Nat)
 | .agg cs=>match τ with
  | .st s=>match b2v lk cs s.ctys with
   | some (l,ids)=>match s.ofCells l with
    | some y=>some (y,ids)
    | none=>none
   | none=>none
  | _=>none
 | v=>a2i lk τ v
mutual
def AV.subs:AV→Bool
 | .sub .. => true
 | .agg cs=>AV.subsL cs
 | .tup cs=>AV.subsL cs
 | .clo _ cs=>AV.subsL cs
 | _=>false
def AV.subsL:List AV→Bool
 | []=>false
 | v::r=>match AV.subs v with
  | true=>true
  | false=>AV.subsL r
end
def AV.killSub(v:AV):AV:=match v.subs with
 | true => .any
 | false=>v
def a0d.killSub:a0d→a0d
 | .box cs => .box (cs.map AV.killSub)
 | o=>o
def a0c.noSubs(s:a0c):a0c:={ slots:=s.slots.map AV.killSub,objs:=s.objs.map fun p=>(p.1,p.2.killSub) }
def a0c.setTree(s:a0c)(id:Nat)(τ:Ty)(xs:List τ.den):a0c :=
 { s with objs:=(id, .tree τ xs)::a0v id s.objs }
def a0c.gone(s:a0c)(id:Nat):a0c :=
 let s':=s.sweep id
 { s' with objs:=a0v id s'.objs }
def a0c.setTrees(s:a0c):List AV→List TV→a0c
 | .tree id::cs,⟨.slice τ,xs⟩::us=>(s.setTree id τ xs).setTrees cs us
 | _::cs,_::us=>s.setTrees cs us
 | _,_=>s
def a7t(τ:Ty)(x:τ.den)(off:Nat)(u:TV):Option τ.den :=
 match τ with
 | .st s=>match (s.cells x)[off]? with
  | some v=>match decide (v.τ=u.τ) with
   | true=>s.ofCells ((s.cells x).set off u)
   | false=>none
  | none=>none
 | τ=>match Nat.beq off 0 with
  | true=>u.as τ
  | false=>none
def Ty.full:Ty→Ty
 | .mv t => .slice t
 | t=>t
def Ty.mvOf:Ty→Ty→Bool
 | .st p, .st q=>decide (p.ctys.map Ty.full=q.ctys)
 | _,_=>false
def Ty.mvScal:Ty→Bool
 | .mv _=>true
 | t=>t.scal
def e4c:TV→TV
 | ⟨.mv t,o⟩=>⟨.slice t,Option.getD (α:=List t.den) o []⟩
 | u=>u
def e0w:TV→TV
 | ⟨.mv t,_⟩=>⟨.mv t,(none:Option (List t.den))⟩
 | u=>u
def b9h:List TV→Prop
 | []=>True
 | ⟨.mv t,o⟩::r=>Option.isSome (α:=List t.den) o=true∧b9h r
 | _::r=>b9h r
def e5y(s:a0c)(d:Nat)(m:b7v)(vs:List AV):Option (Vc×a0c):=match vs with
 | [.tree id, .imm ⟨.int .i64,n⟩]=>match s.look id with
  | some (.tree τ xs)=>match TV.as m.τ ⟨.slice τ,xs⟩ with
   | some x=>match TV.as (.slice τ) ⟨m.τ,(m.g x n).2.1⟩ with
    | some xs'=>some ((m.g x n).1,(s.noSubs.setTree id τ xs').put (some d) (.imm ⟨.int .i64,(m.g x n).2.2⟩))
    | none=>none
   | none=>none
  | _=>none
 | [.sub id i off sz, .imm ⟨.int .i64,n⟩]=>match s.look id with
  | some (.tree τ xs)=>match TV.part ⟨τ,xs.getD i τ.zero⟩ off m.τ with
   | some u=>match u.as m.τ,Nat.beq τ.size sz&&(!m.τ.agg&&Nat.blt off τ.size) with
    | some x,true=>match a7t τ (xs.getD i τ.zero) off ⟨m.τ,(m.g x n).2.1⟩ with
     | some y=>some ((m.g x n).1,(s.noSubs.setTree id τ (xs.set i y)).put (some d) (.imm ⟨.int .i64,(m.g x n).2.2⟩))
     | none=>none
    | _,_=>none
   | none=>none
  | _=>none
 | [.agg cs, .imm ⟨.int .i64,n⟩]=>match b0q s.look m.τ (.agg cs) with
  | some (x,ids)=>match a4a ids&&ids.all fun id=>a1i (s.look id) with
   | true=>some ((m.g x n).1,(s.noSubs.setTrees cs (TV.cells ⟨m.τ,(m.g x n).2.1⟩)).put (some d) (.imm ⟨.int .i64,(m.g x n).2.2⟩))
   | false=>none
  | none=>none
 | _=>none
def oop(E:Env)(s:a0c)(o:Oper):Option (Vc×a0c) :=
 match o.op with
 | .indexAddr T x ix=>match a0f E.ty T with
  | some (.slice τ,_)=>match s.eval ix,s.eval x with
   | .imm ⟨.int _,n⟩, .tree id=>match s.look id with
    | some (.tree τ' xs)=>match decide (τ'=τ)||τ'.mvOf τ with
     | true=>some (.some (a0j n xs.length),s.put o.dst (.tptr id n.toNat 0 τ.size))
     | false=>none
    | _=>none
   | _,_=>none
  | _=>none
 | .fieldAddr T x i=>match a0f E.ty T with
  | some (.st n,_)=>match s.eval x with
   | .tptr id k off sz=>match Nat.blt i n.ftys.length with
    | true=>some (.none,s.put o.dst (.tptr id k (off+n.offs i) sz))
    | false=>none
   | _=>none
  | _=>none
 | .load T ad=>match a0f E.ty T with
  | some (τ,_)=>match s.eval ad with
   | .tptr id i off sz=>match s.look id with
    | some (.tree τ' xs)=>match TV.part ⟨τ',xs.getD i τ'.zero⟩ off τ,Nat.beq τ'.size sz&&(!τ.agg&&Nat.blt off τ'.size) with
     | some u,true=>match τ.scal with
      | true=>some (.none,s.put o.dst (.imm u))
      | false=>some (.none,s.put o.dst (.sub id i off sz))
     | _,_=>none
    | _=>none
   | _=>none
  | none=>none
 | .store T ad x=>match a0f E.ty T with
  | some (τ,_)=>match s.eval ad with
   | .tptr id i off sz=>match s.look id with
    | some (.tree τ' xs)=>match Nat.beq τ'.size sz&&Nat.blt off τ'.size with
     | true=>match τ.scal with
      | true=>match a2i (fun _=>none) τ (s.eval x) with
       | some (u,_)=>match TV.part ⟨τ',xs.getD i τ'.zero⟩ off τ,a7t τ' (xs.getD i τ'.zero) off ⟨τ,u⟩ with
        | some _,some y=>some (.none,(s.noSubs.setTree id τ' (xs.set i y)).put o.dst .any)
        | _,_=>none
       | none=>none
      | false=>match Nat.beq off 0,b0q s.look τ (s.eval x) with
       | true,some (y,ids)=>match a4a (id::ids),TV.as τ' ⟨τ,y⟩ with
        | true,some y'=>some (.none,((ids.foldl a0c.gone s).noSubs.setTree id τ' (xs.set i y')).put o.dst .any)
        | _,_=>none
       | _,_=>none
     | false=>none
    | _=>none
   | _=>none
  | none=>none
 | .makeSlice T l cc=>match o.dst,a0f E.ty T with
  | some d,some (.slice τ,b,_)=>match E.own.contains d&&Nat.blt d 50 with
   | true=>match s.eval l,s.eval cc with
    | .imm ⟨.int .i64,n⟩, .imm ⟨.int .i64,m⟩=>some (.some (c4u n m b),{ slots:=(s.gone d).slots.set d (.tree d),objs:=(d, .tree τ (List.replicate n.toNat τ.zero))::(s.gone d).objs })
    | _,_=>none
   | false=>none
  | _,_=>none
 | .call c=>match c.callee with
  | .builtin .len=>match c.argTypes.toList,c.args.toList.map s.eval with
   | [T],[.tree id]=>match a0f E.ty T,s.look id with
    | some (.slice _,_),some (.tree _ xs)=>some (.none,s.put o.dst (.imm ⟨.int .i64,(xs.length:Int)⟩))
    | _,_=>none
   | _,_=>none
  | .value (.func f)=>match o.dst with
   | some d=>match E.own.contains d with
    | true=>match E.mark f with
     | some m=>e5y s d m (c.args.toList.map s.eval)
     | none=>match a8u E s.look c.argTypes.toList (c.args.toList.map s.eval) with
      | some as=>match E.octr f as with
       | some (pre,res)=>match ((a0o (100 * (d+1)) res).all fun p=>(s.look p.1).isNone)&&a4a ((a0o (100 * (d+1)) res).map (·.1)) with
        | true=>some (pre,{ slots:=s.slots.set d (a6p (100 * (d+1)) res),objs:=a0o (100 * (d+1)) res++s.objs })
        | false=>none
       | none=>none
      | none=>none
    | false=>none
   | none=>none
  | _=>none
 | _=>none
def a0s(d:Nat):Nat:=100 * (d+1)
def c2n(lk:Nat→Option a0d)(τ:Ty):Nat→List (Nat×AV)→Option (List τ.den×List Nat)
 | _,[]=>some ([],[])
 | n,(i,v)::r=>match Nat.beq i n with
  | true=>match b0q lk τ v with
   | some (x,ids)=>match c2n lk τ (n+1) r with
    | some (xs,js)=>some (x::xs,ids++js)
    | none=>none
   | none=>none
  | false=>none
def a0c.addTree(s:a0c)(d:Nat)(τ:Ty)(xs:List τ.den):a0c :=
 { slots:=s.slots.set d (.tree (a0s d)),objs:=(a0s d, .tree τ xs)::s.objs }
def a5j(E:Env)(lk:Nat→Option a0d):List Bool→List TypeId→List AV→Option (List (Option TV)×List Nat)
 | [],[],[]=>some ([],[])
 | true::fl,T::Ts,v::vs=>match a0f E.ty T with
  | some (τ,_)=>match b0q lk τ v with
   | some (x,i)=>match a5j E lk fl Ts vs with
    | some (r,j)=>some (some ⟨τ,x⟩::r,i++j)
    | none=>none
   | none=>none
  | none=>none
 | false::fl,_::Ts,_::vs=>match a5j E lk fl Ts vs with
  | some (r,j)=>some (none::r,j)
  | none=>none
 | _,_,_=>none
def a4i(E:Env)(lk:Nat→Option a0d):List (Option TV)→List TypeId→List AV→Option (List Arg)
 | [],[],[]=>some []
 | some x::r,_::Ts,_::vs=>match a4i E lk r Ts vs with
  | some as=>some (.own x::as)
  | none=>none
 | none::r,T::Ts,v::vs=>match d4w E lk T v with
  | some x=>match x.solid,a4i E lk r Ts vs with
   | true,some as=>some (x::as)
   | _,_=>none
  | none=>none
 | _,_,_=>none
def bop(E:Env)(s:a0c)(o:Oper):Option (Vc×a0c) :=
 match o.dst with
 | some d=>match E.own.contains d with
  | true=>match o.op with
   | .buildSlice T len parts=>match a0f E.ty T with
    | some (.slice τ,_)=>match Nat.beq parts.size len&&Nat.ble len 1000 with
     | true=>match c2n s.look τ 0 (parts.toList.map fun p=>(p.1,s.eval p.2)) with
      | some (xs,ids)=>match a4a ids,(ids.foldl a0c.gone s).look (a0s d) with
       | true,none=>some (.none,(ids.foldl a0c.gone s).addTree d τ xs)
       | _,_=>none
      | none=>none
     | false=>none
    | _=>none
   | .load T ad=>match a0f E.ty T,s.eval ad with
    | some (.st q,_), .tptr id i 0 sz=>match s.look id with
     | some (.tree (.st p) xs)=>match Nat.beq p.size sz&&p.ctys.all Ty.mvScal,p.ofCells ((p.cells (xs.getD i (Ty.zero (.st p)))).map e0w),q.ofCells ((p.cells (xs.getD i (Ty.zero (.st p)))).map e4c) with
      | true,some y,some z=>match ((a1d (a0s d) (q.cells z)).all fun e=>(s.look e.1).isNone)&&a4a ((a1d (a0s d) (q.cells z)).map (·.1)) with
       | true=>some (.some (b9h (p.cells (xs.getD i (Ty.zero (.st p))))),{ slots:=s.noSubs.slots.set d (a3j (a0s d) ⟨.st q,z⟩),objs:=a1d (a0s d) (q.cells z)++(s.noSubs.setTree id (.st p) (xs.set i y)).objs })
       | false=>none
      | _,_,_=>none
     | _=>none
    | _,_=>none
   | .call c=>match c.callee with
    | .builtin .append=>match c.argTypes.toList with
     | [T,T']=>match Nat.beq T T',a0f E.ty T with
      | true,some (.slice τ,b,_)=>match c.args.toList.map s.eval with
       | [x,y]=>match a2i s.look (.slice τ) x,a2i s.look (.slice τ) y with
        | some (xs,i),some (ys,j)=>match a4a (i++j),((i++j).foldl a0c.gone s).look (a0s d) with
         | true,none=>some (.some (a2d (xs.length+ys.length) b),((i++j).foldl a0c.gone s).addTree d τ (xs++ys))
         | _,_=>none
        | _,_=>none
       | _=>none
      | _,_=>none
     | _=>none
    | .value (.func f)=>match E.tk f with
     | []=>none
     | fl=>match a5j E s.look fl c.argTypes.toList (c.args.toList.map s.eval) with
      | some (own,ids)=>match a4a ids,a4i E (ids.foldl a0c.gone s).look own c.argTypes.toList (c.args.toList.map (ids.foldl a0c.gone s).eval) with
       | true,some as=>match E.octr f as with
        | some (pre,res)=>match ((a0o (a0s d) res).all fun p=>((ids.foldl a0c.gone s).look p.1).isNone)&&a4a ((a0o (a0s d) res).map (·.1)) with
         | true=>some (pre,{ slots:=(ids.foldl a0c.gone s).slots.set d (a6p (a0s d) res),objs:=a0o (a0s d) res++(ids.foldl a0c.gone s).objs })
         | false=>none
        | none=>none
       | _,_=>none
      | none=>none
    | _=>none
   | _=>none
  | false=>none
 | none=>none
def a6z:List (Option Nat)→List AV→List (Nat×Nat)→Option (List (Nat×Nat))
 | [],[],m=>some m
 | some k::fl,v::vs,m=>match v with
  | .ptr id 0=>match a0f m k with
   | some i=>match Nat.beq i id with
    | true=>a6z fl vs m
    | false=>none
   | none=>a6z fl vs ((k,id)::m)
  | _=>none
 | none::fl,_::vs,m=>a6z fl vs m
 | _,_,_=>none
def a1w(lk:Nat→Option a0d):List CK→List AV→List (Nat×Nat)→Option (List TV×List Nat×List (Nat×Nat))
 | [],[],m=>some ([],[],m)
 | .d τ::ks,v::vs,m=>match a5q (fun _=>none) τ v,τ.agg with
  | some x,false=>match a1w lk ks vs m with
   | some (ds,ids,m)=>some (⟨τ,x⟩::ds,ids,m)
   | none=>none
  | _,_=>none
 | .o τ::ks,v::vs,m=>match a2i lk τ v,τ.agg with
  | some (x,i),false=>match a1w lk ks vs m with
   | some (ds,ids,m)=>some (⟨τ,x⟩::ds,i++ids,m)
   | none=>none
  | _,_=>none
 | .p j::ks,v::vs,m=>match v with
  | .ptr id 0=>match a0f m j with
   | some i=>match Nat.beq i id with
    | true=>a1w lk ks vs m
    | false=>none
   | none=>a1w lk ks vs ((j,id)::m)
  | _=>none
 | _,_,_=>none
def a9p(lk:Nat→Option a0d):List (List CK)→Nat→List (Nat×Nat)→Option (List (List TV)×List Nat×List (Nat×Nat))
 | [],_,m=>some ([],[],m)
 | ks::sh,k,m=>match a0f m k with
  | some id=>match lk id with
   | some (.box cs)=>match a1w lk ks cs m with
    | some (ds,i,m)=>match a9p lk sh (k+1) m with
     | some (dss,ids,m)=>some (ds::dss,i++ids,m)
     | none=>none
    | none=>none
   | _=>none
  | none=>none
def b7c(lk:Nat→Option a0d)(ids:List Nat)(id:Nat):Option a0d:=match ids.contains id with
 | true=>none
 | false=>match lk id with
  | some (.box cs)=>some (.box cs)
  | _=>none
def Arg.noClo:Arg→Bool
 | .clo _=>false
 | _=>true
def b1j(E:Env)(lk:Nat→Option a0d):List (Option Nat)→List TypeId→List AV→Option (List Arg)
 | [],[],[]=>some []
 | some k::fl,_::Ts,_::vs=>match b1j E lk fl Ts vs with
  | some r=>some (.box k::r)
  | none=>none
 | none::fl,T::Ts,v::vs=>match d4w E lk T v with
  | some x=>match x.noClo,b1j E lk fl Ts vs with
   | true,some r=>some (x::r)
   | _,_=>none
  | none=>none
 | _,_,_=>none
def a1b(m:List (Nat×Nat)):List CK→List AV→List TV→Nat→Option (List AV×List (Nat×a0d)×Nat)
 | [],[],[],n=>some ([],[],n)
 | .d τ::ks,_::cs,v::ds,n=>match decide (v.τ=τ) with
  | true=>match a1b m ks cs ds n with
   | some (r,os,n)=>some (.imm v::r,os,n)
   | none=>none
  | false=>none
 | .o τ::ks,_::cs,v::ds,n=>match decide (v.τ=τ) with
  | true=>match a1b m ks cs ds (n+1) with
   | some (r,os,n')=>some (a7s n v::r,a4j n v++os,n')
   | none=>none
  | false=>none
 | .p j::ks,c::cs,ds,n=>match c with
  | .ptr id 0=>match a0f m j with
   | some i=>match Nat.beq i id,a1b m ks cs ds n with
    | true,some (r,os,n)=>some (.ptr id 0::r,os,n)
    | _,_=>none
   | none=>none
  | _=>none
 | _,_,_,_=>none
def b3q(lk:Nat→Option a0d)(m:List (Nat×Nat)):List (List CK)→Nat→List (List TV)→Nat→Option (List (Nat×a0d)×List (Nat×a0d))
 | [],_,[],_=>some ([],[])
 | ks::sh,k,ds::dss,n=>match a0f m k with
  | some id=>match lk id with
   | some (.box cs)=>match a1b m ks cs ds n with
    | some (r,os,n)=>match b3q lk m sh (k+1) dss n with
     | some (bs,ts)=>some ((id, .box r)::bs,os++ts)
     | none=>none
    | none=>none
   | _=>none
  | none=>none
 | _,_,_,_=>none
def a5c:List Nat→List (Nat×a0d)→List (Nat×a0d)
 | [],os=>os
 | id::r,os=>a5c r (a0v id os)
def sop(E:Env)(s:a0c)(o:Oper):Option (Vc×a0c) :=
 match o.dst with
 | some d=>match o.op with
  | .call c=>match c.callee with
   | .value (.func f)=>match E.sk f with
    | some sk=>match a6z sk.ps (c.args.toList.map s.eval) [] with
     | some m0=>match a9p s.look sk.sh 0 m0 with
      | some (dss,ids,m)=>match a4a ids&&(a4a (m.map (·.1))&&(a4a (m.map (·.2))&&Nat.beq m.length sk.sh.length)) with
       | true=>match b1j E (b7c (ids.foldl a0c.gone s).look (m.map (·.2))) sk.ps c.argTypes.toList (c.args.toList.map (ids.foldl a0c.gone s).eval) with
        | some as=>match E.sctr f as dss with
         | some (pre,res,dss')=>match b3q (ids.foldl a0c.gone s).look m sk.sh 0 dss' (a0s d+60) with
          | some (bs,ts)=>match ((a0o (a0s d) res++ts).all fun p=>((ids.foldl a0c.gone s).look p.1).isNone)&&a4a ((a0o (a0s d) res++ts).map (·.1)) with
           | true=>some (pre,{ slots:=(ids.foldl a0c.gone s).slots.set d (a6p (a0s d) res),objs:=bs++(a0o (a0s d) res++ts)++a5c (m.map (·.2)) (ids.foldl a0c.gone s).objs })
           | false=>none
          | none=>none
         | none=>none
        | none=>none
       | false=>none
      | none=>none
     | none=>none
    | none=>none
   | _=>none
  | _=>none
 | none=>none
def d1m(v:AV)(K:Prop):Prop :=
 match v with
 | .imm ⟨.int .i64,n⟩=>a0e n→K
 | .imm ⟨.slice _,xs⟩=>xs.length≤140737488355328→K
 | .imm ⟨.str,xs⟩=>xs.length≤140737488355328→K
 | _=>K
def d7a:Op→Bool
 | .load .. | .field .. | .index .. | .extract .. => true
 | .call c=>match c.callee with
  | .builtin .append=>false
  | _=>true
 | _=>false
def b3a:Option Nat→Bool
 | none=>true
 | some d=>Nat.blt d 400000
def nop(E:Env)(s:a0c)(o:Oper):Option (Vc×AV×Option a0d):=match o.op with
 | .call c=>match c.callee with
  | .value (.func f)=>match o.dst with
   | some d=>match a8u E (b2t s.look) c.argTypes.toList (c.args.toList.map s.eval) with
    | some as=>match E.nctr f as with
     | some (pre, .box cells)=>some (pre, .ptr d 0,some (.box (cells.map .imm)))
     | some (pre, .row e τ xs)=>some (pre, .row d,some (.row e τ xs))
     | none=>none
    | none=>none
   | none=>none
  | _=>none
 | _=>none
def a7g(E:Env)(o:Oper)(K:a0c→Prop)(s:a0c):Prop :=
 match b3a o.dst with
 | false=>False
 | true =>
 let s:=(a8n E s o).foldl a0c.freeze s
 match sop E s o with
 | some (vc,s')=>vc.and (K s')
 | none=>match bop E s o with
 | some (vc,s')=>vc.and (K s')
 | none=>match eop E s o with
 | some (vc,s')=>vc.and (K s')
 | none=>match oop E s o with
 | some (vc,s')=>vc.and (K s')
 | none=>match nop E s o with
 | some (vc,v,ob)=>vc.and (K (s.lay o.dst v ob))
 | none=>match qop E s.look s.eval o with
  | some (vc,v,ob)=>vc.and (match d7a o.op with
   | true=>d1m v (K (s.lay o.dst v ob))
   | false=>K (s.lay o.dst v ob))
  | none=>False
def b7l(ops:Array Oper)(g:Nat):Option Nat:=(ops[g]?).bind (·.dst)
def a3q(E:Env)(ops:Array Oper):List Oper→List (Nat×Bool)→(a0c→Prop)→a0c→Prop
 | [],_,Q,s=>Q s
 | o::r,kn,Q,s=>match o.guard with
  | none=>a7g E o (a3q E ops r kn Q) s
  | some (g,want)=>match b7l ops g with
   | none=>False
   | some t=>match a0f kn t with
    | some b=>match s.eval (.tmp t) with
     | .imm ⟨.bool,b'⟩=>match b' == b,b == want with
      | true,true=>a7g E o (a3q E ops r kn Q) s
      | true,false=>a3q E ops r kn Q (s.put o.dst .undf)
      | false,_=>False
     | .undf=>a3q E ops r kn Q (s.put o.dst .undf)
     | _=>False
    | none=>match s.eval (.tmp t) with
     | .imm ⟨.bool,b⟩ =>
      (b=want→a7g E o (a3q E ops r ((t,want)::kn) Q) (s.put (some t) (.imm ⟨.bool,want⟩))) ∧
      (b = !want→a3q E ops r ((t,!want)::kn) Q ((s.put (some t) (.imm ⟨.bool,!want⟩)).put o.dst .undf))
     | .undf=>a3q E ops r kn Q (s.put o.dst .undf)
     | _=>False
def b6g(acc:List Nat)(s:Nat)(e:Edge):Nat :=
 match Region.binds .any e with
 | true=>s ||| (1 <<< e.on ||| acc.getD e.on 0)
 | false=>s
def a0u:List Oper→List Nat→List Nat
 | [],acc=>acc
 | o::r,acc=>a0u r (acc++[o.after.toList.foldl (b6g acc) 0])
def b0j:List Nat→Nat→Nat→Nat
 | [],_,m=>m
 | b::r,i,m=>match Nat.beq (b+1) (2 ^ i) with
  | true=>b0j r (i+1) m
  | false=>b0j r (i+1) (i+1)
def a1f(ops:List Oper)(k:Nat):Option Nat:=(ops[k]?).bind (·.dst)
def a9b(ops:List Oper)(m bits t:Nat):Bool:=(List.range m).any fun k=>match a1f ops k with
 | some d=>match Nat.beq d t with
  | true => !Nat.testBit bits k
  | false=>false
 | none=>false
def evR(ops:List Oper)(m bits:Nat)(s:a0c):Operand→AV
 | .tmp t=>match a9b ops m bits t with
  | true => .any
  | false=>s.eval (.tmp t)
 | x=>s.eval x
def lkR(ops:List Oper)(m bits:Nat)(s:a0c)(id:Nat):Option a0d:=match a9b ops m bits id with
 | true=>none
 | false=>s.look id
def b6d:Op→Bool
 | .alloc _ | .box .. | .buildSlice .. | .makeSlice .. | .makeMap .. => true
 | .call c=>match c.callee with
  | .builtin .append=>true
  | _=>false
 | _=>false
def a0c.fresh(s:a0c)(o:Oper):a0c :=
 match b6d o.op,o.dst with
 | true,some d=>let s':=s.sweep d
  { s' with objs:=a0v d s'.objs }
 | _,_=>s
def a0c.layN(s:a0c)(d:Option Nat)(v:AV)(o:Option a0d):a0c :=
 match d with
 | some d=>{ slots:=s.slots.set d v,objs:=match o with
  | some o=>(d,o)::s.objs
  | none=>s.objs }
 | none=>s
def d0r(E:Env)(ops:List Oper)(m bits:Nat)(o:Oper)(K:a0c→Prop)(s:a0c):Prop :=
 match a8n E s o with
 | []=>match qop E (lkR ops m bits s) (evR ops m bits s) o with
  | some (vc,v,ob)=>vc.and (K (s.layN o.dst v ob))
  | none=>False
 | _=>False
def a8w(E:Env)(ops:List Oper)(m:Nat)(anc:List Nat):Nat→List Oper→List (Nat×Bool)→(List (Nat×Bool)→a0c→Prop)→a0c→Prop
 | _,[],kn,Q,s=>Q kn s
 | i,o::r,kn,Q,s=>match o.guard with
  | none=>d0r E ops m (anc.getD i 0) o (a8w E ops m anc (i+1) r kn Q) s
  | some (g,want)=>match a1f ops g,Nat.testBit (anc.getD i 0) g with
   | some t,true=>match a0f kn t with
    | some b=>match s.eval (.tmp t) with
     | .imm ⟨.bool,b'⟩=>match b' == b,b == want with
      | true,true=>d0r E ops m (anc.getD i 0) o (a8w E ops m anc (i+1) r kn Q) s
      | true,false=>a8w E ops m anc (i+1) r kn Q (s.put o.dst .undf)
      | false,_=>False
     | .undf=>a8w E ops m anc (i+1) r kn Q (s.put o.dst .undf)
     | _=>False
    | none=>match s.eval (.tmp t) with
     | .imm ⟨.bool,b⟩ =>
      (b=want→d0r E ops m (anc.getD i 0) o (a8w E ops m anc (i+1) r ((t,want)::kn) Q) (s.put (some t) (.imm ⟨.bool,want⟩))) ∧
      (b = !want→a8w E ops m anc (i+1) r ((t,!want)::kn) Q ((s.put (some t) (.imm ⟨.bool,!want⟩)).put o.dst .undf))
     | .undf=>a8w E ops m anc (i+1) r kn Q (s.put o.dst .undf)
     | _=>False
   | _,_=>False
def c6b:List (Option Nat)→Bool
 | []=>true
 | none::_=>false
 | some d::r=>match r.any fun x=>match x with
   | some e=>Nat.beq d e
   | none=>false with
  | true=>false
  | false=>c6b r
def a8h(ops:List Oper):Bool:=(List.range ops.length).all fun i=>match ops[i]? with
 | some o=>o.after.toList.all fun e=>match Region.binds .any e with
  | true=>Nat.blt e.on i
  | false=>true
 | none=>true
def b6j(ops:List Oper)(s:a0c)(K:Prop):Prop :=
 match ops with
 | []=>K
 | o::r=>match d7a o.op,o.dst with
  | true,some d=>d1m (s.slots.getD d .any) (b6j r s K)
  | _,_=>b6j r s K
def d5z(anc:List Nat)(p:Nat):Bool:=(anc.drop p).all fun b=>Nat.beq (b % 2 ^ p) (2 ^ p - 1)
def e0v(anc:List Nat):List Nat→List Nat
 | []=>[]
 | p::r=>match d5z anc p with
  | true=>p::e0v anc r
  | false=>e0v anc r
def b7i:List (Option Nat)→Bool
 | []=>true
 | none::r=>b7i r
 | some d::r=>match r.any fun x=>match x with
   | some e=>Nat.beq d e
   | none=>false with
  | true=>false
  | false=>b7i r
def c3z(l:List Oper)(lo hi:Nat):Bool :=
 (((l.take hi).drop lo).all fun o=>b3a o.dst)&&b7i (((l.take hi).drop lo).map (·.dst))&&(l.take lo).all fun o=>match o.dst with
  | none=>true
  | some d => !(((l.take hi).drop lo).any fun p=>match p.dst with
   | some e=>Nat.beq d e
   | none=>false)
def Oper.alone(E:Env)(o:Oper):Bool:=match o.op with
 | .store .. | .mapUpdate .. | .insert .. => true
 | _=>match o.dst with
  | some d=>E.own.contains d
  | none=>false
def b3t(u v:TV):Prop:=match u.as v.τ with
 | some x=>x=v.x
 | none=>False
def e0i:Op→Option (List Operand)
 | .move x | .assign x | .nilCheck x | .fieldAddr _ x _ | .load _ x | .box _ x | .extract x _=>some [x]
 | .indexAddr _ x i | .store _ x i | .lookup _ x i _=>some [x,i]
 | .mapUpdate _ m k x | .insert _ m k x=>some [m,k,x]
 | .makeMap _ none=>some []
 | .alloc _=>some []
 | .binOp _ _ x y _=>some [x,y]
 | .build _ ps=>some (ps.toList.map (·.2))
 | .buildSlice _ _ ps=>some (ps.toList.map (·.2))
 | .call c=>match c.callee with
  | .value f=>some (f::c.args.toList)
  | .builtin _=>some c.args.toList
  | _=>none
 | _=>none
def a4k(D:List Nat)(o:Oper):Bool:=match e0i o.op with
 | some l=>l.all fun x=>match x with
  | .tmp t => !D.contains t
  | _=>true
 | none=>false
def d1u:Op→Bool
 | .move _ | .nilCheck _ | .fieldAddr .. | .load .. | .indexAddr .. => true
 | _=>false
def rop(E:Env)(s:a0c)(o:Oper):Option (Vc×AV):=match d1u o.op with
 | true=>match qop E s.look s.eval o with
  | some (vc,v,none)=>some (vc,v)
  | _=>none
 | false=>none
def d1h:AV→AV→Prop
 | .imm v, .imm u=>b3t v u
 | .pimm v, .pimm u=>b3t v u
 | .tree i, .tree j=>i=j
 | .row i, .row j=>i=j
 | .ptr i p, .ptr j q=>i=j∧p=q
 | .nil, .nil=>True
 | _,_=>False
def d7h:List AV→List AV→Prop
 | [],[]=>True
 | a::as,b::bs=>d1h a b∧d7h as bs
 | _,_=>False
def e0r(a b:AV):Prop:=match a,b with
 | .agg as, .agg bs=>d7h as bs
 | a,b=>d1h a b
def a5v(E:Env):List (Nat×Oper)→a0c→Prop→Prop
 | [],_,K=>K
 | r::rs,s,K=>match r.2.dst,rop E s r.2 with
  | some d,some (vc,v)=>vc.and (e0r v (s.slots.getD d .any)∧a5v E rs s K)
  | _,_=>False
def d1i(E:Env):List (Nat×Oper)→(a0c→Prop)→a0c→Prop
 | [],K,s=>K s
 | r::rs,K,s=>match r.2.dst,rop E s r.2 with
  | some d,some (vc,v)=>vc.and (d1m v (d1i E rs K (s.put (some d) v)))
  | _,_=>False
def a8x(R:List (Nat×Oper)):List Nat:=R.filterMap fun r=>r.2.dst
def b0h:Op→Bool
 | .alloc _=>true
 | _=>false
def a7w:Op→Bool
 | .extract .. => true
 | _=>false
def b7m:Op→Bool
 | .buildSlice _ len ps=>Nat.beq len 0&&Nat.beq ps.size 0
 | _=>false
def a2g(op:Op):Bool:=b0h op||(a7w op||b7m op)
def b2p(X:List (Nat×Oper)):List Nat:=X.filterMap fun x=>match a2g x.2.op with
 | true=>x.2.dst
 | false=>none
def b8t(s:a0c):Op→Bool
 | .extract t i=>match s.eval t with
  | .tup vs=>Nat.blt i vs.length
  | _=>false
 | _=>true
def e1m(anc:List Nat)(X:List (Nat×Oper))(s:a0c):Bool:=X.all fun e=>b8t s e.2.op||X.any fun y => !a2g y.2.op&&Nat.testBit (anc.getD e.1 0) y.1
def d1l(anc:List Nat)(x:Nat×Oper):List (Nat×Oper)→List (Nat×Oper)
 | []=>[x]
 | y::ys=>match Nat.testBit (anc.getD y.1 0) x.1 with
  | true=>x::y::ys
  | false=>y::d1l anc x ys
def c6p(anc:List Nat):List (Nat×Oper)→List (Nat×Oper)
 | []=>[]
 | x::xs=>match a2g x.2.op with
  | true=>d1l anc x (c6p anc xs)
  | false=>x::c6p anc xs
def b1f(E:Env)(o:Oper):Bool:=match o.op with
 | .alloc T=>o.dst.isSome&&(b3a o.dst&&(a0f E.ty T).isSome)
 | .extract .. => o.dst.isSome
 | .buildSlice T len ps => !(Nat.beq len 0&&Nat.beq ps.size 0)||(match o.dst,a0f E.ty T with
  | some d,some (.slice _,_)=>Nat.blt d 400000&&(E.ro.contains d && !E.own.contains d)
  | _,_=>false)
 | _=>true
def d5j(anc:List Nat)(X:List (Nat×Oper))(y:Nat×Oper):Bool := !a2g y.2.op&&X.all fun z=>a2g z.2.op || !Nat.testBit (anc.getD y.1 0) z.1
def b9k(p:Nat×Oper→Bool)(f:Nat×Oper→Prop):List (Nat×Oper)→Prop
 | []=>True
 | y::ys=>match p y with
  | true=>f y∧b9k p f ys
  | false=>b9k p f ys
def a5z(E:Env)(anc:List Nat):Nat→List (Nat×Oper)→List (Nat×Oper)→(a0c→Prop)→a0c→Prop
 | 0,_,X,K,s=>match X with
  | []=>K s
  | _::_=>False
 | n+1,R,X,K,s=>match X with
  | []=>K s
  | x::xs=>match e1m anc (x::xs) s with
   | true=>match a4k (a8x (R.filter fun r => !Nat.testBit (anc.getD x.1 0) r.1)++b2p xs) x.2&&xs.all fun y=>a2g y.2.op||Nat.testBit (anc.getD y.1 0) x.1 with
    | true=>a7g E x.2 (fun s'=>a5v E (R.filter fun r => !Nat.testBit (anc.getD x.1 0) r.1) s' (a5z E anc n (R.filter fun r => !Nat.testBit (anc.getD x.1 0) r.1) xs K s')) s
    | false=>match a2g x.2.op with
     | true=>False
     | false=>b9k (d5j anc (x::xs)) (fun y=>match a4k (a8x (R.filter fun r => !Nat.testBit (anc.getD y.1 0) r.1)++b2p ((x::xs).filter fun z => !Nat.beq z.1 y.1)) y.2 with
      | true=>a7g E y.2 (fun s'=>a5v E (R.filter fun r => !Nat.testBit (anc.getD y.1 0) r.1) s' (a5z E anc n (R.filter fun r => !Nat.testBit (anc.getD y.1 0) r.1) ((x::xs).filter fun z => !Nat.beq z.1 y.1) K s')) s
      | false=>False) (x::xs)
   | false=>False
def a8e:Nat→List Oper→List (Nat×Oper)
 | _,[]=>[]
 | i,o::r=>(i,o)::a8e (i+1) r
def a9i(anc:List Nat)(seg:List (Nat×Oper))(r:Nat×Oper):Bool :=
 d1u r.2.op&&seg.all fun y=>d1u y.2.op || !Nat.testBit (anc.getD r.1 0) y.1
def e8z(E:Env)(anc:List Nat)(seg:List (Nat×Oper)):Bool :=
 (seg.all fun r=>r.2.guard.isNone&&b1f E r.2)&&seg.all fun r => !(a9i anc seg r||a7w r.2.op)||a4k (a8x (seg.filter fun y => !Nat.testBit (anc.getD r.1 0) y.1)++bif a7w r.2.op then b2p seg else []) r.2
def e5b(E:Env)(anc:List Nat)(seg:List (Nat×Oper))(K:a0c→Prop)(s:a0c):Prop :=
 match e8z E anc seg with
 | true=>d1i E (seg.filter (a9i anc seg)) (fun s'=>a5v E (seg.filter (a9i anc seg)) s' (a5z E anc seg.length (seg.filter (a9i anc seg)) (c6p anc (seg.filter fun r => !a9i anc seg r)) K s')) s
 | false=>False
def b6c(E:Env)(ops:Array Oper)(l:List Oper)(anc:List Nat):List Nat→Nat→List (Nat×Bool)→(a0c→Prop)→a0c→Prop
 | [],lo,_,Q,s=>match Nat.beq lo l.length with
  | true=>Q s
  | false=>False
 | hi::r,lo,kn,Q,s=>match d5z anc hi&&(d5z anc lo&&(Nat.blt lo hi&&Nat.ble hi l.length)) with
  | true=>match Nat.beq hi (lo+1) with
   | true=>a3q E ops ((l.take hi).drop lo) kn (b6c E ops l anc r hi kn Q) s
   | false=>match c3z l lo hi,((l.take hi).drop lo).any (Oper.alone E) with
    | true,true=>e5b E anc (a8e lo ((l.take hi).drop lo)) (b6c E ops l anc r hi kn Q) s
    | true,false=>a8w E l hi anc lo ((l.take hi).drop lo) kn (fun kn s=>b6j ((l.take hi).drop lo) s (b6c E ops l anc r hi kn Q s)) (((l.take hi).drop lo).foldl a0c.fresh s)
    | false,_=>False
  | false=>False
def d7j(E:Env)(ops:Array Oper)(Q:a0c→Prop)(s:a0c):Prop :=
 let l:=ops.toList
 let anc:=a0u l []
 let m:=b0j anc 0 0
 match ((l.take m).all fun o=>b3a o.dst)&&(c6b ((l.take m).map (·.dst))&&a8h l) with
 | true=>a8w E l m anc 0 (l.take m) [] (fun kn s=>b6j (l.take m) s (a3q E ops (l.drop m) kn Q s)) ((l.take m).foldl a0c.fresh s)
 | false=>False
def d7i(E:Env)(ops:Array Oper)(Q:a0c→Prop)(s:a0c):Prop :=
 let l:=ops.toList
 let anc:=a0u l []
 match (l.take (b0j anc 0 0)).any (Oper.alone E) with
 | false=>d7j E ops Q s
 | true=>match a8h l with
  | true=>b6c E ops l anc (e0v anc ((List.range l.length).map (·+1))) 0 [] Q s
  | false=>False
inductive a0w:Type 1 where
 | none
 | mk (ι:Type) (P:ι→Prop) (μ:ι→Nat) (fz dead:List Nat) (ins:ι→List (Nat×AV)) (keep:List Nat) (os:ι→List (Nat×a0d)) (ren0 ren:List (Nat×Nat)) (sub:ι→Nat→a0w)
def Code.asg:Code→List Nat
 | .region _ ops _=>ops.toList.filterMap (·.dst)
 | .seq a b=>Code.asg a++Code.asg b
 | .cond _ a b=>Code.asg a++Code.asg b
 | .block _ c=>Code.asg c
 | .loop c=>Code.asg c
 | .scope c=>Code.asg c
 | _=>[]
def Code.first:Code→Option Nat
 | .region id _ _=>some id
 | .seq a _=>Code.first a
 | .block _ c=>Code.first c
 | .loop c=>Code.first c
 | .cond _ a _=>Code.first a
 | _=>none
def Code.joinAt(Λ:Nat→a0w)(b:Code):a0w:=match Code.first b with
 | some r=>Λ (r+100000)
 | none => .none
def e6q(sl:List AV):List (Nat×AV)→List AV
 | []=>sl
 | (t,v)::r=>e6q (sl.set t v) r
def d3x(keep:List Nat):List (Nat×a0d)→List (Nat×a0d)
 | []=>[]
 | (k,o)::r=>match keep.contains k with
  | true=>(k,o)::d3x keep r
  | false=>d3x keep r
def b4d(s:a0c)(asg:List Nat)(ins:List (Nat×AV))(keep:List Nat)(os:List (Nat×a0d)):a0c :=
 { slots:=e6q (asg.foldl (fun l t=>l.set t .any) s.slots) ins,objs:=os++d3x keep s.objs }
def a1s(ρ:List (Nat×Nat))(id:Nat):Nat:=match a0f ρ id with
 | some k=>k
 | none=>id
def b6z:Option a0d→Bool
 | some (.row ..)=>true
 | _=>false
def a5k:Option a0d→Bool
 | some (.box _)=>true
 | _=>false
def c6m:Option a0d→Bool
 | some (.map _)=>true
 | _=>false
def AV.fit1(ρ:List (Nat×Nat))(s t:a0c)(a b:AV):Prop :=
 match b with
 | .any=>True
 | .imm v=>match a with
  | .imm u=>b3t u v
  | .nil=>match v with
   | ⟨.slice _,xs⟩=>xs=[]
   | _=>False
  | _=>False
 | .nil=>match a with
  | .nil=>True
  | _=>False
 | .pimm v=>match a with
  | .pimm u=>b3t u v
  | _=>False
 | .ptr id off=>match a with
  | .ptr i o=>match Nat.beq i (a1s ρ id)&&Nat.beq o off&&a5k (t.look id) with
   | true=>True
   | false=>False
  | _=>False
 | .row id=>match a with
  | .row i=>match Nat.beq i (a1s ρ id)&&b6z (t.look id) with
   | true=>True
   | false=>False
  | .nil=>match b6z (t.look id),s.look (a1s ρ id) with
   | true,Option.none=>True
   | _,_=>False
  | _=>False
 | .tree id=>match a with
  | .tree i=>match Nat.beq i (a1s ρ id)&&a1i (t.look id) with
   | true=>True
   | false=>False
  | .nil=>match a1i (t.look id),s.look (a1s ρ id) with
   | true,Option.none=>True
   | _,_=>False
  | _=>False
 | .fn f=>match a with
  | .fn g=>match Nat.beq f g with
   | true=>True
   | false=>False
  | _=>False
 | .mp id=>match a with
  | .mp i=>match Nat.beq i (a1s ρ id)&&c6m (t.look id) with
   | true=>True
   | false=>False
  | _=>False
 | _=>False
def c2z(ρ:List (Nat×Nat))(s t:a0c):List AV→List AV→Prop
 | [],[]=>True
 | a::as,b::bs=>match b with
  | .any=>c2z ρ s t as bs
  | b=>AV.fit1 ρ s t a b∧c2z ρ s t as bs
 | _,_=>False
def AV.fit0(ρ:List (Nat×Nat))(s t:a0c)(a b:AV):Prop :=
 match a,b with
 | .agg as, .agg bs=>c2z ρ s t as bs
 | a,b=>AV.fit1 ρ s t a b
def e1b(ρ:List (Nat×Nat))(s t:a0c):List AV→List AV→Prop
 | [],[]=>True
 | a::as,b::bs=>match b with
  | .any=>e1b ρ s t as bs
  | b=>AV.fit0 ρ s t a b∧e1b ρ s t as bs
 | _,_=>False
def e3z(u v:FV):Prop:=match u.as v.ps v.r with
 | some F=>F=v.F
 | none=>False
def AV.fit(ρ:List (Nat×Nat))(s t:a0c)(a b:AV):Prop :=
 match a,b with
 | .clo f as, .clo g bs=>match Nat.beq f g with
  | true=>e1b ρ s t as bs
  | false=>False
 | .fun_ u, .fun_ v=>e3z u v
 | .agg as, .agg bs=>c2z ρ s t as bs
 | .agg as, .imm v=>match asT (fun _=>none) v.τ (.agg as) with
  | some x=>x=v.x
  | none=>False
 | a,b=>AV.fit1 ρ s t a b
def c0e(ρ:List (Nat×Nat))(s t:a0c):List AV→List AV→Prop
 | [],[]=>True
 | a::as,b::bs=>match b with
  | .any=>c0e ρ s t as bs
  | b=>AV.fit ρ s t a b∧c0e ρ s t as bs
 | _,_=>False
def toO(x:a3l):b4l:=⟨x.kind,x.num,some x.kids⟩
def e2c(τ':Ty)(ys:List τ'.den)(τ:Ty)(xs:List τ.den):Prop :=
 match decide (τ = .st .oExpr),decide (τ' = .st .expr) with
 | true,true=>b3t ⟨.slice (.st .oExpr),((show Option (List a3l) from TV.as (.slice (.st .expr)) ⟨.slice τ',ys⟩).getD []).map toO⟩ ⟨.slice τ,xs⟩
 | _,_=>b3t ⟨.slice τ',ys⟩ ⟨.slice τ,xs⟩
def e4f(a b:MV):Prop:=match a.as b.κ b.ε with
 | some (f,n)=>f=b.f∧n=b.n
 | none=>False
def a7p(ρ:List (Nat×Nat))(s t:a0c):List (Nat×a0d)→Prop
 | []=>True
 | (id, .box bs)::r=>match s.look (a1s ρ id) with
  | some (.box as)=>c2z ρ s t as bs∧a7p ρ s t r
  | _=>False
 | (id, .row e τ xs)::r=>match s.look (a1s ρ id) with
  | some (.row e' τ' ys)=>match Nat.beq e e' with
   | true=>b3t ⟨.slice τ',ys⟩ ⟨.slice τ,xs⟩∧a7p ρ s t r
   | false=>False
  | Option.none=>xs=[]∧a7p ρ s t r
  | _=>False
 | (id, .tree τ xs)::r=>match s.look (a1s ρ id) with
  | some (.tree τ' ys)=>e2c τ' ys τ xs∧a7p ρ s t r
  | Option.none=>xs=[]∧a7p ρ s t r
  | _=>False
 | (id, .map m)::r=>match s.look (a1s ρ id) with
  | some (.map m')=>e4f m' m∧a7p ρ s t r
  | _=>False
def e3l(ρ:List (Nat×Nat))(s t:a0c):Prop :=
 match (a4a (t.objs.map (·.1))&&a4a (t.objs.map fun p=>a1s ρ p.1))&&t.objs.all (fun p=>Nat.blt p.1 50||(Nat.ble 100 p.1||(Nat.beq (a1s ρ p.1) p.1&&a1i (s.look p.1))))&&t.objs.all (fun p=>Nat.blt p.1 400000||(!a5k (some p.2)||(Nat.beq (a1s ρ p.1) p.1&&a5k (s.look p.1)))) with
 | true=>c0e ρ s t s.slots t.slots∧a7p ρ s t t.objs
 | false=>False
def e9a(ρ:List (Nat×Nat))(a b:AV):List (Nat×Nat):=match b with
 | .tree k=>match a with
  | .tree i=>match Nat.beq i (a1s ρ k) with
   | true=>[]
   | false=>[(k,i)]
  | _=>[]
 | _=>[]
def e4k(ρ:List (Nat×Nat)):List AV→List AV→List (Nat×Nat)
 | a::as,b::bs=>e9a ρ a b++e4k ρ as bs
 | _,_=>[]
def f1w(ρ:List (Nat×Nat))(a b:AV):List (Nat×Nat):=match b with
 | .agg bs=>match a with
  | .agg as=>e4k ρ as bs
  | _=>[]
 | b=>e9a ρ a b
def d9d(ρ:List (Nat×Nat)):List AV→List AV→List (Nat×Nat)
 | a::as,b::bs=>f1w ρ a b++d9d ρ as bs
 | _,_=>[]
def c6z(ρ:List (Nat×Nat))(s:a0c):List (Nat×a0d)→List (Nat×Nat)
 | []=>[]
 | (id, .box bs)::r=>match s.look (a1s ρ id) with
  | some (.box as)=>e4k ρ as bs++c6z ρ s r
  | _=>c6z ρ s r
 | _::r=>c6z ρ s r
def e1f:List (Nat×Nat)→(List (Nat×Nat)→Prop)→Prop
 | [],K=>K []
 | (a,b)::r,K=>e1f r fun r'=>K ((a,b)::r')
theorem d2x:∀ {l:List (Nat×Nat)} {K:List (Nat×Nat)→Prop},e1f l K→K l
 | [],_,h=>h
 | (a,b)::r,K,h=>d2x (l:=r) (K:=fun r'=>K ((a,b)::r')) h
def d4r(ρ:List (Nat×Nat))(s t:a0c):Prop:=e1f (c6z ρ s t.objs++d9d ρ s.slots t.slots) fun r=>e3l (r++ρ) s t
theorem d4r.ex{ρ:List (Nat×Nat)}{s t:a0c}(h:d4r ρ s t):∃ r,e3l (r++ρ) s t:=⟨_,d2x h⟩
def awp(E:Env):Code→(Nat→a0w)→Nat→(Exit→a0c→Prop)→a0c→Prop
 | .skip,_,_,Q,s=>Q .normal s
 | .region _ ops draw,_,_,Q,s=>match draw with
  | true=>d7i E ops (Q .normal) s
  | false=>a3q E ops ops.toList [] (Q .normal) s
 | .seq a b,Λ,cur,Q,s=>match Code.joinAt Λ b with
  | .none=>awp E a Λ cur (fun e s'=>match e with
   | .normal=>awp E b Λ cur Q s'
   | e=>Q e s') s
  | .mk ι P _ fz dead ins keep os ren0 _ sub =>
   let asg:=dead++Code.asg a
   awp E a Λ cur (fun e s'=>match e with
    | .normal=>∃ j:ι,P j∧d4r ren0 (fz.foldl a0c.freeze s') (b4d s asg (ins j) keep (os j))
    | e=>Q e s') s ∧
   ∀ i:ι,P i→awp E b (sub i) cur Q (b4d s asg (ins i) keep (os i))
 | .cond c a b,Λ,cur,Q,s=>match s.eval c with
  | .imm ⟨.bool,t⟩=>(t=true→awp E a Λ cur Q s)∧(t=false→awp E b Λ cur Q s)
  | _=>False
 | .block id c,Λ,_,Q,s=>awp E c Λ id (fun e s'=>match e with
  | .exit i=>match Nat.beq i id with
   | true=>Q .normal s'
   | false=>Q (.exit i) s'
  | e=>Q e s') s
 | .loop c,Λ,cur,Q,s=>match Λ cur with
  | .none=>False
  | .mk ι P μ fz dead ins keep os ren0 ren sub =>
   let asg:=dead++Code.asg c
   (∃ i:ι,P i∧d4r ren0 (fz.foldl a0c.freeze s) (b4d s asg (ins i) keep (os i))) ∧
   ∀ i:ι,P i→awp E c (sub i) cur (fun e s'=>match e with
    | .normal=>∃ j:ι,P j∧μ j<μ i∧d4r ren (fz.foldl a0c.freeze s') (b4d s asg (ins j) keep (os j))
    | e=>Q e s') (b4d s asg (ins i) keep (os i))
 | .exit id,_,_,Q,s=>Q (.exit id) s
 | .ret,_,_,Q,s=>Q .ret s
 | .label _,_,_,Q,s=>Q .normal s
 | _,_,_,_,_=>False
def d1v(E:Env)(s:a0c):List ResultVar→List TypeId→Option (List TV)
 | [],[]=>some []
 | r::rs,T::Ts=>match a0f E.ty T with
  | some (τ,_)=>match (match r with
    | .tmp t=>asT (c6v s.look) τ (s.eval (.tmp t))
    | .cell a t=>match Nat.beq t T with
     | true=>c1t (c6v s.look) τ (s.eval (.tmp a))
     | false=>none) with
   | some x=>match d1v E s rs Ts with
    | some l=>some (⟨τ,x⟩::l)
    | none=>none
   | none=>none
  | none=>none
 | _,_=>none
def e0f:Arg→AV
 | .val v => .imm v
 | .ref v => .pimm v
 | .fn f => .fn f
 | .clo v => .fun_ v
 | .own _ => .any
 | .box _ => .any
def a0q(fn:Func)(args:List Arg):a0c :=
 { slots:=args.map e0f++List.replicate (fn.ntmps - args.length) .any,objs:=[] }
def b3s:Nat→List Arg→a0c→a0c
 | _,[],s=>s
 | p, .own v::r,s=>b3s (p+1) r { slots:=s.slots.set p (a3j (1000000+100 * p) v),objs:=a1d (1000000+100 * p) v.cells++s.objs }
 | p,_::r,s=>b3s (p+1) r s
def d0v(fn:Func)(args:List Arg):a0c:=b3s 0 args (a0q fn args)
def a1m(E:Env)(fn:Func)(post:List TV→Prop)(e:Exit)(s:a0c):Prop :=
 match e with
 | .ret | .normal=>match d1v E s fn.results.toList fn.resultTypes.toList with
  | some vs=>post vs
  | none=>False
 | _=>False
def a2e:List TV→List TV→Prop
 | [],[]=>True
 | [v],[u]=>b3t v u
 | v::vs,u::us=>b3t v u∧a2e vs us
 | _,_=>False
end
end Go.Proofs.YtmdefiphdgcijaaDoor

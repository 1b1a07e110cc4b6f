/- The abstract machine: what the operations of a function do to typed data, without memory. 'awp' is its weakest precondition. -/
import Derived.Test.YtlaoejdeanljgaaVmTypes
import Derived.Orders
namespace Go.Proofs.Ytlaoejdeanljgaa
noncomputable section
@[reducible] def FN:List Ty→Ty→Type
 | [],r=>Prop×r.den
 | t::ts,r=>t.den→FN ts r
structure FV where
 ps:List Ty
 r:Ty
 F:FN ps r
def FV.as(ps:List Ty)(r:Ty)(v:FV):Option (FN ps r):=if h:v.ps=ps then (if k:v.r=r then some (h ▸ k ▸ v.F) else none) else none
theorem FV.as_some{ps:List Ty}{r:Ty}{v:FV}{F:FN ps r}(h:v.as ps r=some F):v=⟨ps,r,F⟩:=by
 unfold FV.as at h
 split at h
 ·split at h
  ·rename_i e k
   obtain⟨ps',r',F'⟩:=v
   simp only at e k
   subst e k
   simp at h
   subst h
   rfl
  ·cases h
 ·cases h
@[simp] theorem FV.as_mk(ps:List Ty)(r:Ty)(F:FN ps r):FV.as ps r ⟨ps,r,F⟩=some F:=by simp[FV.as]
structure MV where
 κ:Ty
 ε:Ty
 f:κ.den→Option ε.den
 n:Nat
def MV.as(κ ε:Ty)(m:MV):Option ((κ.den→Option ε.den)×Nat):=if h:m.κ=κ then (if k:m.ε=ε then some (h ▸ k ▸ (m.f,m.n)) else none) else none
theorem MV.as_some{κ ε:Ty}{m:MV}{F:(κ.den→Option ε.den)×Nat}(h:m.as κ ε=some F):m=⟨κ,ε,F.1,F.2⟩:=by
 unfold MV.as at h
 split at h
 ·split at h
  ·rename_i e k
   obtain⟨κ',ε',f',n'⟩:=m
   simp only at e k
   subst e k
   simp at h
   subst h
   rfl
  ·cases h
 ·cases h
@[simp] theorem MV.as_mk(κ ε:Ty)(f:κ.den→Option ε.den)(n:Nat):MV.as κ ε ⟨κ,ε,f,n⟩=some (f,n):=by simp[MV.as]
def d3t{α β:Type}(f:α→Option β)(k:α)(v:β):α→Option β:=fun x => @ite _ (x=k) (Classical.propDecidable _) (some v) (f x)
def e3c{β:Type}(o:Option β)(n:Nat):Nat:=bif o.isSome then n else n+1
inductive AV where
 | any
 | undf
 | imm (v:TV)
 | nil
 | pimm (v:TV)
 | ptr (id off:Nat)
 | row (id:Nat)
 | rptr (id i off:Nat)
 | agg (cs:List AV)
 | tup (vs:List AV)
 | fn (f:FuncId)
 | tree (id:Nat)
 | sub (id i off sz:Nat)
 | tptr (id i off sz:Nat)
 | clo (f:FuncId) (cs:List AV)
 | fun_ (v:FV)
 | mp (id:Nat)
inductive a0f where
 | box (cs:List AV)
 | row (e:TypeId) (τ:Ty) (xs:List τ.den)
 | tree (τ:Ty) (xs:List τ.den)
 | map (m:MV)
structure a0c where
 slots:List AV
 objs:List (Nat×a0f)
inductive Arg where
 | val (v:TV)
 | ref (v:TV)
 | fn (f:FuncId)
 | clo (v:FV)
 | own (v:TV)
 | box (k:Nat)
inductive CK where
 | d (τ:Ty)
 | o (τ:Ty)
 | p (k:Nat)
structure SK where
 ps:List (Option Nat)
 sh:List (List CK)
def a0k{α:Type}:List (Nat×α)→Nat→Option α
 | [],_=>none
 | (k,v)::r,n=>match Nat.beq k n with
  | true=>some v
  | false=>a0k r n
abbrev Vc:=Option Prop
def Vc.ok:Vc→Prop
 | .none=>True
 | .some p=>p
def Vc.and(v:Vc)(K:Prop):Prop:=match v with
 | .none=>K
 | .some p=>p∧K
theorem Vc.and_ok{v:Vc}{K:Prop}(h:v.and K):v.ok∧K:=by
 cases v with
 | none=>exact⟨trivial,h⟩
 | some p=>exact h
structure f4h where
 τ:Ty
 g:τ.den→Int→Vc×τ.den×Int
structure c6i where
 ps:List Ty
 r:Ty
 caps:List (Bool×Ty)
def Arg.solid:Arg→Bool
 | .ref _ | .clo _ | .box _=>false
 | _=>true
inductive f9a where
 | box (cells:List TV)
 | row (e:TypeId) (τ:Ty) (xs:List τ.den)
structure Env where
 ty:List (Nat×Ty×Nat×Nat)
 pty:List (Nat×Ty)
 ctr:Nat→List Arg→Option (Vc×List TV)
 wr:List Nat:=[]
 own:List Nat:=[]
 octr:Nat→List Arg→Option (Vc×List TV):=fun _ _=>none
 mark:Nat→Option f4h:=fun _=>none
 clo:Nat→Option c6i:=fun _=>none
 ro:List Nat:=[]
 tk:Nat→List Bool:=fun _=>[]
 sk:Nat→Option SK:=fun _=>none
 sctr:Nat→List Arg→List (List TV)→Option (Vc×List TV×List (List TV)):=fun _ _ _=>none
 mty:List (Nat×Ty×Ty):=[]
 nctr:Nat→List Arg→Option (Vc×f9a):=fun _ _=>none
def a0c.look(s:a0c)(id:Nat):Option a0f:=Ytlaoejdeanljgaa.a0k s.objs id
def f4p(k:IntKind)(n:Int):Bool :=
 match n with
 | .ofNat m=>match k with
  | .i64=>Nat.ble m 9223372036854775807
  | .u64=>Nat.ble m 18446744073709551615
  | .u8=>Nat.ble m 255
  | _=>Nat.ble m 127
 | .negSucc m=>match k with
  | .i64=>Nat.ble m 9223372036854775807
  | _=>false
def e1o:Value→AV
 | .int k n=>match f4p k n with
  | true => .imm ⟨.int k,n⟩
  | false => .any
 | .bool b => .imm ⟨.bool,b⟩
 | .string s=>match Nat.ble s.data.size 1000000 with
  | true => .imm ⟨.str,s.data.toList⟩
  | false => .any
 | .slice none 0 0 => .nil
 | _ => .any
def g1v:Value→AV
 | .agg cs => .agg (cs.toList.map e1o)
 | v=>e1o v
def a0c.eval(s:a0c):Operand→AV
 | .tmp t=>s.slots.getD t .any
 | .const v=>g1v v
 | .func f => .fn f
 | .global _ => .any
def a7s(lk:Nat→Option a0f)(τ:Ty):AV→Option τ.den
 | .imm v=>v.as τ
 | .nil=>match τ with
  | .slice _=>some []
  | _=>none
 | .row id=>match lk id with
  | some (.row _ τ' xs)=>TV.as τ ⟨.slice τ',xs⟩
  | _=>none
 | .tree id=>match lk id with
  | some (.tree τ' xs)=>TV.as τ ⟨.slice τ',xs⟩
  | _=>none
 | _=>none
def d7t(lk:Nat→Option a0f)(id:Nat):Option a0f:=match lk id with
 | some (.tree _ _)=>none
 | o=>o
def f0w(lk:Nat→Option a0f):List AV→List Ty→Option (List TV)
 | [],[]=>some []
 | c::cs,t::ts=>match a7s lk t c with
  | some x=>match f0w lk cs ts with
   | some r=>some (⟨t,x⟩::r)
   | none=>none
  | none=>none
 | _,_=>none
def asT(lk:Nat→Option a0f)(τ:Ty):AV→Option τ.den
 | .agg cs=>match τ with
  | .st s=>match f0w lk cs s.ctys with
   | some l=>s.ofCells l
   | none=>none
  | _=>none
 | v=>a7s lk τ v
def AV.cell:AV→Bool
 | .any | .undf | .agg _ | .tup _ | .sub .. | .tptr .. | .clo .. | .fun_ .. => false
 | .imm v=>match v.τ with
  | .st _=>false
  | _=>true
 | _=>true
def b1i(τ:Ty)(v:AV):Option (List AV) :=
 match τ with
 | .st s=>match v with
  | .imm x=>match x.as (.st s) with
   | some y=>some ((s.cells y).map .imm)
   | none=>none
  | .agg cs=>match Nat.beq cs.length s.size&&cs.all AV.cell with
   | true=>some cs
   | false=>none
  | _=>none
 | _=>match v.cell with
  | true=>some [v]
  | false=>none
def d7k(cs:List AV)(off:Nat)(τ:Ty):Option AV :=
 match τ with
 | .st s=>match Nat.ble (off+s.size) cs.length with
  | true=>some (.agg ((cs.drop off).take s.size))
  | false=>none
 | _=>cs[off]?
def c4u(cs:List AV)(off:Nat)(new:List AV):Option (List AV) :=
 match Nat.ble (off+new.length) cs.length with
 | true=>some (cs.take off++(new++cs.drop (off+new.length)))
 | false=>none
def TV.part(v:TV)(off:Nat)(τ:Ty):Option TV :=
 match Nat.beq off 0&&decide (v.τ=τ) with
 | true=>some v
 | false=>match v.cells[off]? with
  | some u=>match decide (u.τ=τ) with
   | true=>some u
   | false=>none
  | none=>none
def c0e(lk:Nat→Option a0f)(τ:Ty):AV→Option AV
 | .pimm v=>match decide (v.τ=τ) with
  | true=>some (.imm v)
  | false=>none
 | .ptr id off=>match lk id with
  | some (.box cs)=>d7k cs off τ
  | _=>none
 | .rptr id i off=>match lk id with
  | some (.row _ τ' xs)=>match TV.part ⟨τ',xs.getD i τ'.zero⟩ off τ with
   | some u=>some (.imm u)
   | none=>none
  | _=>none
 | _=>none
def d1v(lk:Nat→Option a0f)(τ:Ty)(v:AV):Option τ.den :=
 match c0e lk τ v with
 | some u=>asT lk τ u
 | none=>none
def a0o.offs(s:a0o)(i:Nat):Nat:=((s.ftys.take i).map Ty.size).sum
def c1j(τ:Ty):AV :=
 match τ with
 | .slice _ => .nil
 | τ => .imm ⟨τ,τ.zero⟩
def a7b(τ:Ty):List AV :=
 match τ with
 | .st s=>s.ctys.map c1j
 | τ=>[c1j τ]
def c9q(lk:Nat→Option a0f):List (Bool×Ty)→List AV→Option (List Arg)
 | [],[]=>some []
 | (true,τ)::ks,v::vs=>match d1v lk τ v with
  | some x=>match c9q lk ks vs with
   | some r=>some (.ref ⟨τ,x⟩::r)
   | none=>none
  | none=>none
 | (false,τ)::ks,v::vs=>match asT lk τ v with
  | some x=>match c9q lk ks vs with
   | some r=>some (.val ⟨τ,x⟩::r)
   | none=>none
  | none=>none
 | _,_=>none
def e8c(E:Env)(f:FuncId)(caps:List Arg):(ps:List Ty)→(r:Ty)→List Arg→FN ps r
 | [],r,acc=>match E.ctr f (acc++caps) with
  | some (pre,[v])=>match v.as r with
   | some y=>(pre.ok,y)
   | none=>(False,r.zero)
  | _=>(False,r.zero)
 | t::ts,r,acc=>fun x=>e8c E f caps ts r (acc++[.val ⟨t,x⟩])
def c0m:(ps:List Ty)→(r:Ty)→FN ps r→List Arg→Option (Prop×r.den)
 | [],_,F,[]=>some F
 | t::ts,r,F, .val a::zs=>match a.as t with
  | some x=>c0m ts r (F x) zs
  | none=>none
 | _,_,_,_=>none
def e1q(E:Env)(lk:Nat→Option a0f):AV→Option FV
 | .clo f cs=>match E.clo f with
  | some k=>match c9q lk k.caps cs with
   | some as=>some ⟨k.ps,k.r,e8c E f as k.ps k.r []⟩
   | none=>none
  | none=>none
 | .fun_ v=>some v
 | .fn f=>match E.clo f with
  | some k=>match k.caps with
   | []=>some ⟨k.ps,k.r,e8c E f [] k.ps k.r []⟩
   | _=>none
  | none=>none
 | _=>none
def f0v(E:Env)(lk:Nat→Option a0f)(T:TypeId)(v:AV):Option Arg :=
 match a0k E.ty T with
 | some (τ,_)=>match asT lk τ v with
  | some x=>some (.val ⟨τ,x⟩)
  | none=>none
 | none=>match a0k E.pty T with
  | some τ=>match d1v lk τ v with
   | some x=>some (.ref ⟨τ,x⟩)
   | none=>none
  | none=>match e1q E lk v with
   | some q=>some (.clo q)
   | none=>match v with
    | .fn f=>some (.fn f)
    | _=>none
def b4j(E:Env)(lk:Nat→Option a0f):List TypeId→List AV→Option (List Arg)
 | [],[]=>some []
 | T::Ts,v::vs=>match f0v E lk T v with
  | some x=>match b4j E lk Ts vs with
   | some r=>some (x::r)
   | none=>none
  | none=>none
 | _,_=>none
def c8n:List TV→AV
 | [v] => .imm v
 | vs => .tup (vs.map .imm)
def a0d(n:Int):Prop := -9223372036854775808≤n∧n≤9223372036854775807
def a2j(k:IntKind)(n:Int):Prop :=
 match k with
 | .i64=>a0d n
 | k=>k.min≤n∧n≤k.max
def a0h(n:Int)(len:Nat):Prop:=0≤n∧n<(len:Int)
def a4q(l h:Int)(len:Nat):Prop:=0≤l∧l≤h∧h≤(len:Int)
def a4a(n m:Int)(b:Nat):Prop:=0≤n∧n≤m∧m * ((b:Int)+1)≤140737488355328
def a2p(n b:Nat):Prop:=n * (b+1)≤140737488355328
def f8s(op:BinOp)(k:IntKind)(a b:Int):Option (Vc×Int) :=
 match op with
 | .add=>match k with
  | .u64=>some (.none,IntKind.u64.wrap (a+b))
  | k=>some (.some (a2j k (a+b)),a+b)
 | .sub=>some (.some (a2j k (a - b)),a - b)
 | .mul=>match k with
  | .u64=>some (.none,IntKind.u64.wrap (a * b))
  | k=>some (.some (a2j k (a * b)),a * b)
 | .quo=>some (.some (b≠0∧a2j k (a.tdiv b)),a.tdiv b)
 | .rem=>some (.some (b≠0∧a2j k (a.tmod b)),a.tmod b)
 | .shl=>some (.some (0≤b∧b<k.bits∧a2j k (a * 2 ^ b.toNat)),a * 2 ^ b.toNat)
 | .shr=>some (.some (0≤b∧b<k.bits∧a2j k (a.fdiv (2 ^ b.toNat))),a.fdiv (2 ^ b.toNat))
 | .and=>some (.some (0≤a∧0≤b∧a2j k a∧a2j k b),((a.toNat &&& b.toNat:Nat):Int))
 | _=>none
def cmp(op:BinOp)(a b:Int):Option Bool :=
 match op with
 | .eql=>some (decide (a=b))
 | .neq=>some (!decide (a=b))
 | .lss=>some (decide (a<b))
 | .leq=>some (decide (a≤b))
 | .gtr=>some (decide (b<a))
 | .geq=>some (decide (b≤a))
 | _=>none
def f9j(wr:Bool)(op:BinOp)(k:IntKind)(a b:Int):Option (Vc×Int) :=
 match wr with
 | true=>match op with
  | .add=>some (.none,k.wrap (a+b))
  | .sub=>some (.none,k.wrap (a - b))
  | .mul=>some (.none,k.wrap (a * b))
  | op=>f8s op k a b
 | false=>f8s op k a b
def g2l(tb wr:Bool)(op:BinOp)(u v:AV):Option (Vc×AV) :=
 match u,v with
 | .imm ⟨.int k,a⟩, .imm ⟨.int k',b⟩=>match f9j wr op k a b with
  | some (p,r)=>match op with
   | .shl | .shr=>some (p, .imm ⟨.int k,r⟩)
   | _=>match decide (k=k') with
    | true=>some (p, .imm ⟨.int k,r⟩)
    | false=>none
  | none=>match decide (k=k') with
   | true=>match cmp op a b with
    | some c=>some (.none, .imm ⟨.bool,c⟩)
    | none=>none
   | false=>none
 | .imm ⟨.bool,a⟩, .imm ⟨.bool,b⟩=>match tb with
  | true=>match op with
   | .eql=>some (.none, .imm ⟨.bool,a == b⟩)
   | .neq=>some (.none, .imm ⟨.bool,!(a == b)⟩)
   | _=>none
  | false=>none
 | .imm ⟨.str,a⟩, .imm ⟨.str,b⟩=>match op with
  | .eql=>some (.none, .imm ⟨.bool,decide (a=b)⟩)
  | .neq=>some (.none, .imm ⟨.bool,!decide (a=b)⟩)
  | .add=>some (.some (a.length+b.length≤140737488355328), .imm ⟨.str,a++b⟩)
  | _=>none
 | _,_=>none
def d6l(E:Env)(s:a0o)(cs:List AV):List (Nat×AV)→Option (List AV)
 | []=>some cs
 | (i,v)::r=>match s.ftys[i]? with
  | some τ=>match b1i τ v with
   | some new=>match c4u cs (s.offs i) new with
    | some cs'=>d6l E s cs' r
    | none=>none
   | none=>none
  | none=>none
def c1l(τ:Ty):Nat→List (Nat×AV)→Option (List τ.den)
 | _,[]=>some []
 | n,(i,v)::r=>match Nat.beq i n with
  | true=>match asT (fun _=>none) τ v with
   | some x=>match c1l τ (n+1) r with
    | some xs=>some (x::xs)
    | none=>none
   | none=>none
  | false=>none
def TV.flat(v:TV):Bool:=v.cells.all fun u=>match u.τ with
 | .slice _=>false
 | .mv _=>false
 | _=>true
def b8x(d:Int):Option AV→Option Int
 | none=>some d
 | some (.imm ⟨.int _,n⟩)=>some n
 | _=>none
def c0g(lk:Nat→Option a0f)(id:Nat):Option a0f:=match lk id with
 | some (.box cs)=>some (.box cs)
 | _=>none
def d5a(E:Env)(lk:Nat→Option a0f)(f:FuncId)(Ts:List TypeId)(vs:List AV):Option (Vc×AV×Option a0f) :=
 match b4j E (c0g lk) Ts vs with
 | some as=>match E.ctr f as with
  | some (pre,res)=>some (pre,c8n res,none)
  | none=>none
 | none=>match b4j E lk Ts vs with
  | some as=>match E.ctr f as with
   | some (pre,res)=>match res.all TV.flat with
    | true=>some (pre,c8n res,none)
    | false=>none
   | none=>none
  | none=>none
def c8y(E:Env)(lk:Nat→Option a0f)(g:AV)(Ts:List TypeId)(vs:List AV):Option (Vc×AV×Option a0f) :=
 match (match b4j E (c0g lk) Ts vs with
  | some as=>match e1q E (c0g lk) g with
   | some q=>match c0m q.ps q.r q.F as with
    | some (pre,y)=>some (some pre,c8n [⟨q.r,y⟩],none)
    | none=>none
   | none=>none
  | none=>none) with
 | some r=>some r
 | none=>match b4j E lk Ts vs with
  | some as=>match e1q E lk g with
   | some q=>match c0m q.ps q.r q.F as with
    | some (pre,y)=>match TV.flat ⟨q.r,y⟩ with
     | true=>some (some pre,c8n [⟨q.r,y⟩],none)
     | false=>none
    | none=>none
   | none=>none
  | none=>none
def AV.capOk:AV→Bool
 | .undf | .tup _ | .clo .. | .fun_ .. | .sub .. | .tptr .. => false
 | _=>true
def qop(E:Env)(lk:Nat→Option a0f)(ev:Operand→AV)(o:Oper):Option (Vc×AV×Option a0f) :=
 match o.op with
 | .move x=>some (.none,ev x,none)
 | .assign x=>some (.none,ev x,none)
 | .pick c a b=>match ev c with
  | .imm ⟨.bool,true⟩=>some (.none,ev a,none)
  | .imm ⟨.bool,false⟩=>some (.none,ev b,none)
  | _=>none
 | .alloc T=>match o.dst,a0k E.ty T with
  | some d,some (τ,_)=>some (.none, .ptr d 0,some (.box (a7b τ)))
  | _,_=>none
 | .box T x=>match o.dst,a0k E.ty T with
  | some d,some (τ,_)=>match E.ro.contains d with
   | true=>match asT (fun _=>none) τ (ev x) with
    | some y=>some (.none, .pimm ⟨τ,y⟩,none)
    | none=>none
   | false=>match b1i τ (ev x) with
    | some cs=>some (.none, .ptr d 0,some (.box cs))
    | none=>none
  | _,_=>none
 | .build T parts=>match a0k E.ty T with
  | some (.st n,_)=>match d6l E n (a7b (.st n)) (parts.toList.map fun p=>(p.1,ev p.2)) with
   | some cs=>some (.none, .agg cs,none)
   | none=>none
  | _=>none
 | .buildSlice T len parts=>match o.dst,a0k E.ty T with
  | some d,some (.slice τ,_,e)=>match Nat.beq parts.size len&&Nat.ble len 1000 with
   | true=>match c1l τ 0 (parts.toList.map fun p=>(p.1,ev p.2)) with
    | some xs=>match E.ro.contains d with
     | true=>some (.none, .imm ⟨.slice τ,xs⟩,none)
     | false=>some (.none, .row d,some (.row e τ xs))
    | none=>none
   | false=>none
  | _,_=>none
 | .load T a=>match a0k E.ty T with
  | some (τ,_)=>match c0e lk τ (ev a) with
   | some v=>some (.none,v,none)
   | none=>none
  | none=>none
 | .nilCheck x=>match ev x with
  | .pimm v=>some (.none, .pimm v,none)
  | .ptr id off=>some (.none, .ptr id off,none)
  | .rptr id i off=>some (.none, .rptr id i off,none)
  | _=>none
 | .fieldAddr T x i=>match a0k E.ty T with
  | some (.st n,_)=>match ev x with
   | .pimm v=>match v.as (.st n) with
    | some y=>match (n.fields y)[i]? with
     | some f=>some (.none, .pimm f,none)
     | none=>none
    | none=>none
   | .ptr id off=>match Nat.blt i n.ftys.length with
    | true=>some (.none, .ptr id (off+n.offs i),none)
    | false=>none
   | .rptr id k off=>match Nat.blt i n.ftys.length with
    | true=>some (.none, .rptr id k (off+n.offs i),none)
    | false=>none
   | _=>none
  | _=>none
 | .field T x i=>match a0k E.ty T with
  | some (.st n,_)=>match ev x with
   | .imm v=>match v.as (.st n) with
    | some y=>match (n.fields y)[i]? with
     | some f=>some (.none, .imm f,none)
     | none=>none
    | none=>none
   | .agg cs=>match n.ftys[i]? with
    | some τ=>match d7k cs (n.offs i) τ with
     | some v=>some (.none,v,none)
     | none=>none
    | none=>none
   | _=>none
  | _=>none
 | .indexAddr T x ix=>match a0k E.ty T with
  | some (.slice τ,_)=>match ev ix with
   | .imm ⟨.int _,n⟩=>match ev x with
    | .imm v=>match v.as (.slice τ) with
     | some xs=>some (.some (a0h n xs.length), .pimm ⟨τ,xs.getD n.toNat τ.zero⟩,none)
     | none=>none
    | .row id=>match lk id with
     | some (.row _ τ' xs)=>match decide (τ'=τ) with
      | true=>some (.some (a0h n xs.length), .rptr id n.toNat 0,none)
      | false=>none
     | _=>none
    | _=>none
   | _=>none
  | _=>none
 | .index T x ix=>match a0k E.ty T with
  | some (.str,_)=>match ev ix with
   | .imm ⟨.int _,n⟩=>match ev x with
    | .imm ⟨.str,xs⟩=>some (.some (a0h n xs.length), .imm ⟨.int .u8,((xs.getD n.toNat 0).toNat:Int)⟩,none)
    | _=>none
   | _=>none
  | _=>none
 | .binOp op T x y _=>match g2l (match a0k E.ty T with
   | some (.bool,_)=>true
   | _=>false) (match o.dst with
   | some d=>E.wr.contains d
   | none=>false) op (ev x) (ev y) with
  | some (p,v)=>some (p,v,none)
  | none=>none
 | .unOp op _ x=>match op,ev x with
  | .not, .imm ⟨.bool,b⟩=>some (.none, .imm ⟨.bool,!b⟩,none)
  | .neg, .imm ⟨.int k,n⟩=>some (.some (a2j k (-n)), .imm ⟨.int k,-n⟩,none)
  | _,_=>none
 | .convert src dst x=>match a0k E.ty src,a0k E.ty dst with
  | some (.int _,_),some (.int k,_)=>match ev x with
   | .imm ⟨.int _,n⟩=>some (.some (a2j k n), .imm ⟨.int k,n⟩,none)
   | _=>none
  | _,_=>none
 | .slice T x lo hi mx=>match a0k E.ty T,mx with
  | some (.slice τ,_),none=>match ev x with
   | .imm v=>match v.as (.slice τ) with
    | some xs=>match b8x 0 (lo.map ev),b8x (xs.length:Int) (hi.map ev) with
     | some l,some h=>some (.some (a4q l h xs.length), .imm ⟨.slice τ,(xs.take h.toNat).drop l.toNat⟩,none)
     | _,_=>none
    | none=>none
   | _=>none
  | some (.str,_),none=>match ev x with
   | .imm ⟨.str,xs⟩=>match b8x 0 (lo.map ev),b8x (xs.length:Int) (hi.map ev) with
    | some l,some h=>some (.some (a4q l h xs.length), .imm ⟨.str,(xs.take h.toNat).drop l.toNat⟩,none)
    | _,_=>none
   | _=>none
  | _,_=>none
 | .extract t i=>match ev t with
  | .tup vs=>match vs[i]? with
   | some v=>some (.none,v,none)
   | none=>none
  | _=>none
 | .makeSlice T l c=>match o.dst,a0k E.ty T with
  | some d,some (.slice τ,b,e)=>match ev l,ev c with
   | .imm ⟨.int .i64,n⟩, .imm ⟨.int .i64,m⟩=>some (.some (a4a n m b), .row d,some (.row e τ (List.replicate n.toNat τ.zero)))
   | _,_=>none
  | _,_=>none
 | .call c=>match c.callee with
  | .builtin .len=>match c.argTypes.toList,c.args.toList.map ev with
   | [T],[v]=>match a0k E.ty T with
    | some (.slice _,_)=>match v with
     | .nil=>some (.none, .imm ⟨.int .i64,(0:Int)⟩,none)
     | .imm ⟨.slice _,xs⟩=>some (.none, .imm ⟨.int .i64,(xs.length:Int)⟩,none)
     | .row id=>match lk id with
      | some (.row _ _ xs)=>some (.none, .imm ⟨.int .i64,(xs.length:Int)⟩,none)
      | _=>none
     | _=>none
    | some (.str,_)=>match v with
     | .imm ⟨.str,xs⟩=>some (.none, .imm ⟨.int .i64,(xs.length:Int)⟩,none)
     | _=>none
    | none=>match v,a0k E.mty T with
     | .mp _,some _=>none
     | _,_=>none
    | _=>none
   | _,_=>none
  | .builtin .append=>match o.dst,c.argTypes.toList with
   | some d,[T,T']=>match Nat.beq T T',a0k E.ty T with
    | true,some (.slice τ,b,e)=>match c.args.toList.map ev with
     | [.nil,y]=>match a7s (d7t lk) (.slice τ) y with
      | some ys=>some (.some (a2p ys.length b), .row d,some (.row e τ ys))
      | none=>none
     | _=>none
    | _,_=>none
   | _,_=>none
  | .value (.func f)=>d5a E lk f c.argTypes.toList (c.args.toList.map ev)
  | .value (.tmp t)=>match ev (.tmp t) with
   | .fn f=>d5a E lk f c.argTypes.toList (c.args.toList.map ev)
   | .clo f cs=>c8y E lk (.clo f cs) c.argTypes.toList (c.args.toList.map ev)
   | .fun_ v=>c8y E lk (.fun_ v) c.argTypes.toList (c.args.toList.map ev)
   | _=>none
  | _=>none
 | .makeMap _ none=>none
 | .lookup _ _ _ _=>none
 | .makeFunc fn first captured=>match fn,first.toList,(captured.toList.map ev).all AV.capOk with
  | .func f,[],true=>match captured.toList.map ev with
   | []=>some (.none, .fn f,none)
   | cs=>some (.none, .clo f cs,none)
  | _,_,_=>none
 | _=>none
mutual
def AV.refs(id:Nat):AV→Bool
 | .ptr i _=>Nat.beq i id
 | .row i=>Nat.beq i id
 | .rptr i _ _=>Nat.beq i id
 | .tree i=>Nat.beq i id
 | .sub i _ _ _=>Nat.beq i id
 | .tptr i _ _ _=>Nat.beq i id
 | .mp i=>Nat.beq i id
 | .agg cs=>AV.refsL id cs
 | .tup cs=>AV.refsL id cs
 | .clo _ cs=>AV.refsL id cs
 | _=>false
def AV.refsL(id:Nat):List AV→Bool
 | []=>false
 | v::r=>match AV.refs id v with
  | true=>true
  | false=>AV.refsL id r
end
def AV.kill(id:Nat)(v:AV):AV:=match v.refs id with
 | true => .any
 | false=>v
def a0f.kill(id:Nat):a0f→a0f
 | .box cs => .box (cs.map (AV.kill id))
 | o=>o
def a0c.sweep(s:a0c)(id:Nat):a0c :=
 { slots:=s.slots.map (AV.kill id),objs:=s.objs.map fun p=>(p.1,p.2.kill id) }
def a1u(id:Nat):List (Nat×a0f)→List (Nat×a0f)
 | []=>[]
 | (k,o)::r=>match Nat.beq k id with
  | true=>a1u id r
  | false=>(k,o)::a1u id r
def a0c.put(s:a0c)(d:Option Nat)(v:AV):a0c :=
 match d with
 | some d=>{ s with slots:=s.slots.set d v }
 | none=>s
def a0c.lay(s:a0c)(d:Option Nat)(v:AV)(o:Option a0f):a0c :=
 match o,d with
 | some o,some d =>
  let s':=s.sweep d
  { slots:=s'.slots.set d v,objs:=(d,o.kill d)::a1u d s'.objs }
 | _,d=>s.put d v
mutual
def AV.rows:AV→List Nat
 | .row i=>[i]
 | .agg cs=>AV.rowsL cs
 | _=>[]
def AV.rowsL:List AV→List Nat
 | []=>[]
 | v::r=>AV.rows v++AV.rowsL r
end
def f9i(s:a0c)(v:AV):List Nat :=
 match v with
 | .ptr id _=>match s.look id with
  | some (.box cs)=>AV.rowsL cs
  | _=>[]
 | v=>v.rows
def g8b(s:a0c)(v:AV):List Nat :=
 match v with
 | .clo _ cs=>cs.flatMap (f9i s)
 | v=>f9i s v
def b3y(E:Env)(s:a0c)(o:Oper):List Nat :=
 match (match o.dst with
  | some d=>E.own.contains d
  | none=>false) with
 | true=>[]
 | false=>match o.op with
 | .buildSlice _ _ parts=>parts.toList.flatMap fun p=>(s.eval p.2).rows
 | .slice _ x _ _ _=>(s.eval x).rows
 | .store _ a x=>match s.eval a with
  | .rptr _ _ _=>(s.eval x).rows
  | _=>[]
 | .call c=>match c.callee with
  | .value _=>match E.ctr (match c.callee with
    | .value (.func f)=>f
    | .value (.tmp t)=>match s.eval (.tmp t) with
     | .fn f=>f
     | _=>0
    | _=>0) (match b4j E s.look c.argTypes.toList (c.args.toList.map s.eval) with
     | some as=>as
     | none=>[]) with
   | some (_,res)=>match res.all TV.flat with
    | true=>[]
    | false=>c.args.toList.flatMap fun x=>g8b s (s.eval x)
   | none=>[]
  | _=>[]
 | _=>[]
mutual
def AV.frz(id:Nat)(u:AV):AV→AV
 | .row i=>match Nat.beq i id with
  | true=>u
  | false => .row i
 | .rptr i k off=>match Nat.beq i id with
  | true => .any
  | false => .rptr i k off
 | .agg cs => .agg (AV.frzL id u cs)
 | .tup cs => .tup (AV.frzL id u cs)
 | .clo f cs => .clo f (AV.frzL id u cs)
 | v=>v
def AV.frzL(id:Nat)(u:AV):List AV→List AV
 | []=>[]
 | v::r=>AV.frz id u v::AV.frzL id u r
end
def a0f.frz(id:Nat)(u:AV):a0f→a0f
 | .box cs => .box (AV.frzL id u cs)
 | o=>o
mutual
def AV.frt(id:Nat)(u:AV):AV→AV
 | .tree i=>match Nat.beq i id with
  | true=>u
  | false => .tree i
 | .sub i k off z=>match Nat.beq i id with
  | true => .any
  | false => .sub i k off z
 | .tptr i k off z=>match Nat.beq i id with
  | true => .any
  | false => .tptr i k off z
 | .agg cs => .agg (AV.frtL id u cs)
 | .tup cs => .tup (AV.frtL id u cs)
 | .clo f cs => .clo f (AV.frtL id u cs)
 | v=>v
def AV.frtL(id:Nat)(u:AV):List AV→List AV
 | []=>[]
 | v::r=>AV.frt id u v::AV.frtL id u r
end
def a0f.frt(id:Nat)(u:AV):a0f→a0f
 | .box cs => .box (AV.frtL id u cs)
 | o=>o
def a0c.freeze(s:a0c)(id:Nat):a0c :=
 match s.look id with
 | some (.row _ τ xs) =>
  { slots:=AV.frzL id (.imm ⟨.slice τ,xs⟩) s.slots,objs:=(a1u id s.objs).map fun p=>(p.1,p.2.frz id (.imm ⟨.slice τ,xs⟩)) }
 | some (.tree τ xs) =>
  { slots:=AV.frtL id (.imm ⟨.slice τ,xs⟩) s.slots,objs:=(a1u id s.objs).map fun p=>(p.1,p.2.frt id (.imm ⟨.slice τ,xs⟩)) }
 | _=>s
def g0h(_:Env)(_:a0c)(_:Option Nat)(_:TypeId)(_ _ _:Operand):Option (Vc×a0c):=none
def eop(E:Env)(s:a0c)(o:Oper):Option (Vc×a0c) :=
 match o.op with
 | .mapUpdate T m k x=>g0h E s o.dst T m k x
 | .insert T m k x=>g0h E s o.dst T m k x
 | .store T a x=>match a0k E.ty T with
  | some (τ,_)=>match s.eval a with
   | .ptr id off=>match s.look id with
    | some (.box cs)=>match b1i τ (s.eval x) with
     | some new=>match c4u cs off new with
      | some cs'=>some (.none,{ s with objs:=(id, .box cs')::a1u id s.objs }.put o.dst .any)
      | none=>none
     | none=>none
    | _=>none
   | .rptr id i 0=>match s.look id with
    | some (.row e' τ' xs)=>match decide (τ'=τ),asT (fun _=>none) τ' (s.eval x) with
     | true,some x=>some (.none,{ s with objs:=(id, .row e' τ' (xs.set i x))::a1u id s.objs }.put o.dst .any)
     | _,_=>none
    | _=>none
   | _=>none
  | none=>none
 | .call c=>match c.callee with
  | .builtin .append=>match o.dst,c.argTypes.toList with
   | some d,[T,T']=>match Nat.beq T T',a0k E.ty T with
    | true,some (.slice τ,b,e)=>match c.args.toList.map s.eval with
     | [.row id,y]=>match s.look id,a7s (d7t s.look) (.slice τ) y with
      | some (.row e' τ' xs),some ys=>match Nat.beq e' e,TV.as (.slice τ) ⟨.slice τ',xs⟩ with
       | true,some xs' =>
        let s':=s.sweep id
        some (.some (a2p (xs'.length+ys.length) b),{ slots:=s'.slots.set d (.row id),objs:=(id, .row e τ (xs'++ys))::a1u id s'.objs })
       | _,_=>none
      | _,_=>none
     | _=>none
    | _,_=>none
   | _,_=>none
  | _=>none
 | _=>none
def a6b:List Nat→Bool
 | []=>true
 | a::r=>match r.contains a with
  | true=>false
  | false=>a6b r
def a3e:Option a0f→Bool
 | some (.tree ..)=>true
 | _=>false
def b2g(id:Nat):TV→AV
 | ⟨.slice _,_⟩ => .tree id
 | ⟨.mv _,_⟩ => .any
 | u => .imm u
def a5m(id:Nat):TV→List (Nat×a0f)
 | ⟨.slice τ,xs⟩=>[(id, .tree τ xs)]
 | _=>[]
def a2l:Nat→List TV→List AV
 | _,[]=>[]
 | id,u::r=>b2g id u::a2l (id+1) r
def a2c:Nat→List TV→List (Nat×a0f)
 | _,[]=>[]
 | id,u::r=>a5m id u++a2c (id+1) r
def a9a(id:Nat):TV→AV
 | ⟨.st s,y⟩ => .agg (a2l id (s.cells y))
 | v=>b2g id v
def e4h:Nat→List TV→List AV
 | _,[]=>[]
 | id,v::r=>a9a id v::e4h (id+20) r
def a1b:Nat→List TV→List (Nat×a0f)
 | _,[]=>[]
 | id,v::r=>a2c id v.cells++a1b (id+20) r
def a9k(id:Nat):List TV→AV
 | [v]=>a9a id v
 | vs => .tup (e4h id vs)
def Ty.agg:Ty→Bool
 | .st _=>true
 | _=>false
def Ty.scal:Ty→Bool
 | .int _ | .bool | .str | .ptr=>true
 | _=>false
def Ty.key:Ty→Bool
 | .int _ | .bool | .str=>true
 | _=>false
def Ty.plain:Ty→Bool
 | .st s=>s.ctys.all Ty.scal
 | .slice _=>false
 | .mv _=>false
 | _=>true
def a4r(lk:Nat→Option a0f)(τ:Ty):AV→Option (τ.den×List Nat)
 | .imm v=>match τ.scal,v.as τ with
  | true,some y=>some (y,[])
  | _,_=>none
 | .nil=>match τ with
  | .slice _=>some ([],[])
  | _=>none
 | .tree id=>match lk id with
  | some (.tree τ' xs)=>match TV.as τ ⟨.slice τ',xs⟩ with
   | some y=>some (y,[id])
   | none=>none
  | _=>none
 | .row id=>match lk id with
  | some (.row _ τ' xs)=>match τ'.plain,TV.as τ ⟨.slice τ',xs⟩ with
   | true,some y=>some (y,[id])
   | _,_=>none
  | _=>none
 | _=>none
def e3t(lk:Nat→Option a0f):List AV→List Ty→Option (List TV×List Nat)
 | [],[]=>some ([],[])
 | c::cs,t::ts=>match a4r lk t c with
  | some (x,i)=>match e3t lk cs ts with
   | some (r,j)=>some (⟨t,x⟩::r,i++j)
   | none=>none
  | none=>none
 | _,_=>none
def d8i(lk:Nat→Option a0f)(τ:Ty):AV→Option (τ.den×List Nat)
 | .agg cs=>match τ with
  | .st s=>match e3t lk cs s.ctys with
   | some (l,ids)=>match s.ofCells l with
    | some y=>some (y,ids)
    | none=>none
   | none=>none
  | _=>none
 | v=>a4r lk τ v
mutual
def AV.subs:AV→Bool
 | .sub .. => true
 | .agg cs=>AV.subsL cs
 | .tup cs=>AV.subsL cs
 | .clo _ cs=>AV.subsL cs
 | _=>false
def AV.subsL:List AV→Bool
 | []=>false
 | v::r=>match AV.subs v with
  | true=>true
  | false=>AV.subsL r
end
def AV.killSub(v:AV):AV:=match v.subs with
 | true => .any
 | false=>v
def a0f.killSub:a0f→a0f
 | .box cs => .box (cs.map AV.killSub)
 | o=>o
def a0c.noSubs(s:a0c):a0c:={ slots:=s.slots.map AV.killSub,objs:=s.objs.map fun p=>(p.1,p.2.killSub) }
def a0c.setTree(s:a0c)(id:Nat)(τ:Ty)(xs:List τ.den):a0c :=
 { s with objs:=(id, .tree τ xs)::a1u id s.objs }
def a0c.gone(s:a0c)(id:Nat):a0c :=
 let s':=s.sweep id
 { s' with objs:=a1u id s'.objs }
def b6w(τ:Ty)(x:τ.den)(off:Nat)(u:TV):Option τ.den :=
 match τ with
 | .st s=>match (s.cells x)[off]? with
  | some v=>match decide (v.τ=u.τ) with
   | true=>s.ofCells ((s.cells x).set off u)
   | false=>none
  | none=>none
 | τ=>match Nat.beq off 0 with
  | true=>u.as τ
  | false=>none
def Ty.full:Ty→Ty
 | .mv t => .slice t
 | t=>t
def Ty.mvOf:Ty→Ty→Bool
 | .st p, .st q=>decide (p.ctys.map Ty.full=q.ctys)
 | _,_=>false
def Ty.mvScal:Ty→Bool
 | .mv _=>true
 | t=>t.scal
def g3b:TV→TV
 | ⟨.mv t,o⟩=>⟨.slice t,Option.getD (α:=List t.den) o []⟩
 | u=>u
def f9q:TV→TV
 | ⟨.mv t,_⟩=>⟨.mv t,(none:Option (List t.den))⟩
 | u=>u
def c8w:List TV→Prop
 | []=>True
 | ⟨.mv t,o⟩::r=>Option.isSome (α:=List t.den) o=true∧c8w r
 | _::r=>c8w r
def g9n(_:a0c)(_:Nat)(_:f4h)(_:List AV):Option (Vc×a0c):=none
def oop(E:Env)(s:a0c)(o:Oper):Option (Vc×a0c) :=
 match o.op with
 | .indexAddr T x ix=>match a0k E.ty T with
  | some (.slice τ,_)=>match s.eval ix,s.eval x with
   | .imm ⟨.int _,n⟩, .tree id=>match s.look id with
    | some (.tree τ' xs)=>match decide (τ'=τ)||τ'.mvOf τ with
     | true=>some (.some (a0h n xs.length),s.put o.dst (.tptr id n.toNat 0 τ.size))
     | false=>none
    | _=>none
   | _,_=>none
  | _=>none
 | .fieldAddr T x i=>match a0k E.ty T with
  | some (.st n,_)=>match s.eval x with
   | .tptr id k off sz=>match Nat.blt i n.ftys.length with
    | true=>some (.none,s.put o.dst (.tptr id k (off+n.offs i) sz))
    | false=>none
   | _=>none
  | _=>none
 | .load T ad=>match a0k E.ty T with
  | some (τ,_)=>match s.eval ad with
   | .tptr id i off sz=>match s.look id with
    | some (.tree τ' xs)=>match TV.part ⟨τ',xs.getD i τ'.zero⟩ off τ,Nat.beq τ'.size sz&&(!τ.agg&&Nat.blt off τ'.size) with
     | some u,true=>match τ.scal with
      | true=>some (.none,s.put o.dst (.imm u))
      | false=>some (.none,s.put o.dst (.sub id i off sz))
     | _,_=>none
    | _=>none
   | _=>none
  | none=>none
 | .store T ad x=>match a0k E.ty T with
  | some (τ,_)=>match s.eval ad with
   | .tptr id i off sz=>match s.look id with
    | some (.tree τ' xs)=>match Nat.beq τ'.size sz&&Nat.blt off τ'.size with
     | true=>match τ.scal with
      | true=>match a4r (fun _=>none) τ (s.eval x) with
       | some (u,_)=>match TV.part ⟨τ',xs.getD i τ'.zero⟩ off τ,b6w τ' (xs.getD i τ'.zero) off ⟨τ,u⟩ with
        | some _,some y=>some (.none,(s.noSubs.setTree id τ' (xs.set i y)).put o.dst .any)
        | _,_=>none
       | none=>none
      | false=>match Nat.beq off 0,d8i s.look τ (s.eval x) with
       | true,some (y,ids)=>match a6b (id::ids),TV.as τ' ⟨τ,y⟩ with
        | true,some y'=>some (.none,((ids.foldl a0c.gone s).noSubs.setTree id τ' (xs.set i y')).put o.dst .any)
        | _,_=>none
       | _,_=>none
     | false=>none
    | _=>none
   | _=>none
  | none=>none
 | .makeSlice T l cc=>match o.dst,a0k E.ty T with
  | some d,some (.slice τ,b,_)=>match E.own.contains d&&Nat.blt d 50 with
   | true=>match s.eval l,s.eval cc with
    | .imm ⟨.int .i64,n⟩, .imm ⟨.int .i64,m⟩=>some (.some (a4a n m b),{ slots:=(s.gone d).slots.set d (.tree d),objs:=(d, .tree τ (List.replicate n.toNat τ.zero))::(s.gone d).objs })
    | _,_=>none
   | false=>none
  | _,_=>none
 | .call c=>match c.callee with
  | .builtin .len=>match c.argTypes.toList,c.args.toList.map s.eval with
   | [T],[.tree id]=>match a0k E.ty T,s.look id with
    | some (.slice _,_),some (.tree _ xs)=>some (.none,s.put o.dst (.imm ⟨.int .i64,(xs.length:Int)⟩))
    | _,_=>none
   | _,_=>none
  | .value (.func f)=>match o.dst with
   | some d=>match E.own.contains d with
    | true=>match E.mark f with
     | some m=>g9n s d m (c.args.toList.map s.eval)
     | none=>match b4j E s.look c.argTypes.toList (c.args.toList.map s.eval) with
      | some as=>match E.octr f as with
       | some (pre,res)=>match ((a1b (100 * (d+1)) res).all fun p=>(s.look p.1).isNone)&&a6b ((a1b (100 * (d+1)) res).map (·.1)) with
        | true=>some (pre,{ slots:=s.slots.set d (a9k (100 * (d+1)) res),objs:=a1b (100 * (d+1)) res++s.objs })
        | false=>none
       | none=>none
      | none=>none
    | false=>none
   | none=>none
  | _=>none
 | _=>none
def a1q(d:Nat):Nat:=100 * (d+1)
def d3h(lk:Nat→Option a0f)(τ:Ty):Nat→List (Nat×AV)→Option (List τ.den×List Nat)
 | _,[]=>some ([],[])
 | n,(i,v)::r=>match Nat.beq i n with
  | true=>match d8i lk τ v with
   | some (x,ids)=>match d3h lk τ (n+1) r with
    | some (xs,js)=>some (x::xs,ids++js)
    | none=>none
   | none=>none
  | false=>none
def a0c.addTree(s:a0c)(d:Nat)(τ:Ty)(xs:List τ.den):a0c :=
 { slots:=s.slots.set d (.tree (a1q d)),objs:=(a1q d, .tree τ xs)::s.objs }
def a7q(E:Env)(lk:Nat→Option a0f):List Bool→List TypeId→List AV→Option (List (Option TV)×List Nat)
 | [],[],[]=>some ([],[])
 | true::fl,T::Ts,v::vs=>match a0k E.ty T with
  | some (τ,_)=>match d8i lk τ v with
   | some (x,i)=>match a7q E lk fl Ts vs with
    | some (r,j)=>some (some ⟨τ,x⟩::r,i++j)
    | none=>none
   | none=>none
  | none=>none
 | false::fl,_::Ts,_::vs=>match a7q E lk fl Ts vs with
  | some (r,j)=>some (none::r,j)
  | none=>none
 | _,_,_=>none
def a6a(E:Env)(lk:Nat→Option a0f):List (Option TV)→List TypeId→List AV→Option (List Arg)
 | [],[],[]=>some []
 | some x::r,_::Ts,_::vs=>match a6a E lk r Ts vs with
  | some as=>some (.own x::as)
  | none=>none
 | none::r,T::Ts,v::vs=>match f0v E lk T v with
  | some x=>match x.solid,a6a E lk r Ts vs with
   | true,some as=>some (x::as)
   | _,_=>none
  | none=>none
 | _,_,_=>none
def bop(E:Env)(s:a0c)(o:Oper):Option (Vc×a0c) :=
 match o.dst with
 | some d=>match E.own.contains d with
  | true=>match o.op with
   | .buildSlice T len parts=>match a0k E.ty T with
    | some (.slice τ,_)=>match Nat.beq parts.size len&&Nat.ble len 1000 with
     | true=>match d3h s.look τ 0 (parts.toList.map fun p=>(p.1,s.eval p.2)) with
      | some (xs,ids)=>match a6b ids,(ids.foldl a0c.gone s).look (a1q d) with
       | true,none=>some (.none,(ids.foldl a0c.gone s).addTree d τ xs)
       | _,_=>none
      | none=>none
     | false=>none
    | _=>none
   | .load T ad=>match a0k E.ty T,s.eval ad with
    | some (.st q,_), .tptr id i 0 sz=>match s.look id with
     | some (.tree (.st p) xs)=>match Nat.beq p.size sz&&p.ctys.all Ty.mvScal,p.ofCells ((p.cells (xs.getD i (Ty.zero (.st p)))).map f9q),q.ofCells ((p.cells (xs.getD i (Ty.zero (.st p)))).map g3b) with
      | true,some y,some z=>match ((a2c (a1q d) (q.cells z)).all fun e=>(s.look e.1).isNone)&&a6b ((a2c (a1q d) (q.cells z)).map (·.1)) with
       | true=>some (.some (c8w (p.cells (xs.getD i (Ty.zero (.st p))))),{ slots:=s.noSubs.slots.set d (a9a (a1q d) ⟨.st q,z⟩),objs:=a2c (a1q d) (q.cells z)++(s.noSubs.setTree id (.st p) (xs.set i y)).objs })
       | false=>none
      | _,_,_=>none
     | _=>none
    | _,_=>none
   | .call c=>match c.callee with
    | .builtin .append=>match c.argTypes.toList with
     | [T,T']=>match Nat.beq T T',a0k E.ty T with
      | true,some (.slice τ,b,_)=>match c.args.toList.map s.eval with
       | [x,y]=>match a4r s.look (.slice τ) x,a4r s.look (.slice τ) y with
        | some (xs,i),some (ys,j)=>match a6b (i++j),((i++j).foldl a0c.gone s).look (a1q d) with
         | true,none=>some (.some (a2p (xs.length+ys.length) b),((i++j).foldl a0c.gone s).addTree d τ (xs++ys))
         | _,_=>none
        | _,_=>none
       | _=>none
      | _,_=>none
     | _=>none
    | .value (.func f)=>match E.tk f with
     | []=>none
     | fl=>match a7q E s.look fl c.argTypes.toList (c.args.toList.map s.eval) with
      | some (own,ids)=>match a6b ids,a6a E (ids.foldl a0c.gone s).look own c.argTypes.toList (c.args.toList.map (ids.foldl a0c.gone s).eval) with
       | true,some as=>match E.octr f as with
        | some (pre,res)=>match ((a1b (a1q d) res).all fun p=>((ids.foldl a0c.gone s).look p.1).isNone)&&a6b ((a1b (a1q d) res).map (·.1)) with
         | true=>some (pre,{ slots:=(ids.foldl a0c.gone s).slots.set d (a9k (a1q d) res),objs:=a1b (a1q d) res++(ids.foldl a0c.gone s).objs })
         | false=>none
        | none=>none
       | _,_=>none
      | none=>none
    | _=>none
   | _=>none
  | false=>none
 | none=>none
def b0k:List (Option Nat)→List AV→List (Nat×Nat)→Option (List (Nat×Nat))
 | [],[],m=>some m
 | some k::fl,v::vs,m=>match v with
  | .ptr id 0=>match a0k m k with
   | some i=>match Nat.beq i id with
    | true=>b0k fl vs m
    | false=>none
   | none=>b0k fl vs ((k,id)::m)
  | _=>none
 | none::fl,_::vs,m=>b0k fl vs m
 | _,_,_=>none
def a3h(lk:Nat→Option a0f):List CK→List AV→List (Nat×Nat)→Option (List TV×List Nat×List (Nat×Nat))
 | [],[],m=>some ([],[],m)
 | .d τ::ks,v::vs,m=>match a7s (fun _=>none) τ v,τ.agg with
  | some x,false=>match a3h lk ks vs m with
   | some (ds,ids,m)=>some (⟨τ,x⟩::ds,ids,m)
   | none=>none
  | _,_=>none
 | .o τ::ks,v::vs,m=>match a4r lk τ v,τ.agg with
  | some (x,i),false=>match a3h lk ks vs m with
   | some (ds,ids,m)=>some (⟨τ,x⟩::ds,i++ids,m)
   | none=>none
  | _,_=>none
 | .p j::ks,v::vs,m=>match v with
  | .ptr id 0=>match a0k m j with
   | some i=>match Nat.beq i id with
    | true=>a3h lk ks vs m
    | false=>none
   | none=>a3h lk ks vs ((j,id)::m)
  | _=>none
 | _,_,_=>none
def a9r(lk:Nat→Option a0f):List (List CK)→Nat→List (Nat×Nat)→Option (List (List TV)×List Nat×List (Nat×Nat))
 | [],_,m=>some ([],[],m)
 | ks::sh,k,m=>match a0k m k with
  | some id=>match lk id with
   | some (.box cs)=>match a3h lk ks cs m with
    | some (ds,i,m)=>match a9r lk sh (k+1) m with
     | some (dss,ids,m)=>some (ds::dss,i++ids,m)
     | none=>none
    | none=>none
   | _=>none
  | none=>none
def c5f(lk:Nat→Option a0f)(ids:List Nat)(id:Nat):Option a0f:=match ids.contains id with
 | true=>none
 | false=>match lk id with
  | some (.box cs)=>some (.box cs)
  | _=>none
def Arg.noClo:Arg→Bool
 | .clo _=>false
 | _=>true
def b9p(E:Env)(lk:Nat→Option a0f):List (Option Nat)→List TypeId→List AV→Option (List Arg)
 | [],[],[]=>some []
 | some k::fl,_::Ts,_::vs=>match b9p E lk fl Ts vs with
  | some r=>some (.box k::r)
  | none=>none
 | none::fl,T::Ts,v::vs=>match f0v E lk T v with
  | some x=>match x.noClo,b9p E lk fl Ts vs with
   | true,some r=>some (x::r)
   | _,_=>none
  | none=>none
 | _,_,_=>none
def a2f(m:List (Nat×Nat)):List CK→List AV→List TV→Nat→Option (List AV×List (Nat×a0f)×Nat)
 | [],[],[],n=>some ([],[],n)
 | .d τ::ks,_::cs,v::ds,n=>match decide (v.τ=τ) with
  | true=>match a2f m ks cs ds n with
   | some (r,os,n)=>some (.imm v::r,os,n)
   | none=>none
  | false=>none
 | .o τ::ks,_::cs,v::ds,n=>match decide (v.τ=τ) with
  | true=>match a2f m ks cs ds (n+1) with
   | some (r,os,n')=>some (b2g n v::r,a5m n v++os,n')
   | none=>none
  | false=>none
 | .p j::ks,c::cs,ds,n=>match c with
  | .ptr id 0=>match a0k m j with
   | some i=>match Nat.beq i id,a2f m ks cs ds n with
    | true,some (r,os,n)=>some (.ptr id 0::r,os,n)
    | _,_=>none
   | none=>none
  | _=>none
 | _,_,_,_=>none
def c1f(lk:Nat→Option a0f)(m:List (Nat×Nat)):List (List CK)→Nat→List (List TV)→Nat→Option (List (Nat×a0f)×List (Nat×a0f))
 | [],_,[],_=>some ([],[])
 | ks::sh,k,ds::dss,n=>match a0k m k with
  | some id=>match lk id with
   | some (.box cs)=>match a2f m ks cs ds n with
    | some (r,os,n)=>match c1f lk m sh (k+1) dss n with
     | some (bs,ts)=>some ((id, .box r)::bs,os++ts)
     | none=>none
    | none=>none
   | _=>none
  | none=>none
 | _,_,_,_=>none
def a7j:List Nat→List (Nat×a0f)→List (Nat×a0f)
 | [],os=>os
 | id::r,os=>a7j r (a1u id os)
def sop(E:Env)(s:a0c)(o:Oper):Option (Vc×a0c) :=
 match o.dst with
 | some d=>match o.op with
  | .call c=>match c.callee with
   | .value (.func f)=>match E.sk f with
    | some sk=>match b0k sk.ps (c.args.toList.map s.eval) [] with
     | some m0=>match a9r s.look sk.sh 0 m0 with
      | some (dss,ids,m)=>match a6b ids&&(a6b (m.map (·.1))&&(a6b (m.map (·.2))&&Nat.beq m.length sk.sh.length)) with
       | true=>match b9p E (c5f (ids.foldl a0c.gone s).look (m.map (·.2))) sk.ps c.argTypes.toList (c.args.toList.map (ids.foldl a0c.gone s).eval) with
        | some as=>match E.sctr f as dss with
         | some (pre,res,dss')=>match c1f (ids.foldl a0c.gone s).look m sk.sh 0 dss' (a1q d+60) with
          | some (bs,ts)=>match ((a1b (a1q d) res++ts).all fun p=>((ids.foldl a0c.gone s).look p.1).isNone)&&a6b ((a1b (a1q d) res++ts).map (·.1)) with
           | true=>some (pre,{ slots:=(ids.foldl a0c.gone s).slots.set d (a9k (a1q d) res),objs:=bs++(a1b (a1q d) res++ts)++a7j (m.map (·.2)) (ids.foldl a0c.gone s).objs })
           | false=>none
          | none=>none
         | none=>none
        | none=>none
       | false=>none
      | none=>none
     | none=>none
    | none=>none
   | _=>none
  | _=>none
 | none=>none
def e4e(v:AV)(K:Prop):Prop :=
 match v with
 | .imm ⟨.int .i64,n⟩=>a0d n→K
 | .imm ⟨.slice _,xs⟩=>xs.length≤140737488355328→K
 | .imm ⟨.str,xs⟩=>xs.length≤140737488355328→K
 | _=>K
def f3l:Op→Bool
 | .load .. | .field .. | .index .. | .extract .. => true
 | .call c=>match c.callee with
  | .builtin .append=>false
  | _=>true
 | _=>false
def c0n:Option Nat→Bool
 | none=>true
 | some d=>Nat.blt d 400000
def nop(E:Env)(s:a0c)(o:Oper):Option (Vc×AV×Option a0f):=match o.op with
 | .call c=>match c.callee with
  | .value (.func f)=>match o.dst with
   | some d=>match b4j E (c0g s.look) c.argTypes.toList (c.args.toList.map s.eval) with
    | some as=>match E.nctr f as with
     | some (pre, .box cells)=>some (pre, .ptr d 0,some (.box (cells.map .imm)))
     | some (pre, .row e τ xs)=>some (pre, .row d,some (.row e τ xs))
     | none=>none
    | none=>none
   | none=>none
  | _=>none
 | _=>none
def b9o(E:Env)(o:Oper)(K:a0c→Prop)(s:a0c):Prop :=
 match c0n o.dst with
 | false=>False
 | true =>
 let s:=(b3y E s o).foldl a0c.freeze s
 match sop E s o with
 | some (vc,s')=>vc.and (K s')
 | none=>match bop E s o with
 | some (vc,s')=>vc.and (K s')
 | none=>match eop E s o with
 | some (vc,s')=>vc.and (K s')
 | none=>match oop E s o with
 | some (vc,s')=>vc.and (K s')
 | none=>match nop E s o with
 | some (vc,v,ob)=>vc.and (K (s.lay o.dst v ob))
 | none=>match qop E s.look s.eval o with
  | some (vc,v,ob)=>vc.and (match f3l o.op with
   | true=>e4e v (K (s.lay o.dst v ob))
   | false=>K (s.lay o.dst v ob))
  | none=>False
def c5o(ops:Array Oper)(g:Nat):Option Nat:=(ops[g]?).bind (·.dst)
def a5d(E:Env)(ops:Array Oper):List Oper→List (Nat×Bool)→(a0c→Prop)→a0c→Prop
 | [],_,Q,s=>Q s
 | o::r,kn,Q,s=>match o.guard with
  | none=>b9o E o (a5d E ops r kn Q) s
  | some (g,want)=>match c5o ops g with
   | none=>False
   | some t=>match a0k kn t with
    | some b=>match s.eval (.tmp t) with
     | .imm ⟨.bool,b'⟩=>match b' == b,b == want with
      | true,true=>b9o E o (a5d E ops r kn Q) s
      | true,false=>a5d E ops r kn Q (s.put o.dst .undf)
      | false,_=>False
     | .undf=>a5d E ops r kn Q (s.put o.dst .undf)
     | _=>False
    | none=>match s.eval (.tmp t) with
     | .imm ⟨.bool,b⟩ =>
      (b=want→b9o E o (a5d E ops r ((t,want)::kn) Q) (s.put (some t) (.imm ⟨.bool,want⟩))) ∧
      (b = !want→a5d E ops r ((t,!want)::kn) Q ((s.put (some t) (.imm ⟨.bool,!want⟩)).put o.dst .undf))
     | .undf=>a5d E ops r kn Q (s.put o.dst .undf)
     | _=>False
def c4g(acc:List Nat)(s:Nat)(e:Edge):Nat :=
 match Region.binds .any e with
 | true=>s ||| (1 <<< e.on ||| acc.getD e.on 0)
 | false=>s
def a1v:List Oper→List Nat→List Nat
 | [],acc=>acc
 | o::r,acc=>a1v r (acc++[o.after.toList.foldl (c4g acc) 0])
def b6x:List Nat→Nat→Nat→Nat
 | [],_,m=>m
 | b::r,i,m=>match Nat.beq (b+1) (2 ^ i) with
  | true=>b6x r (i+1) m
  | false=>b6x r (i+1) (i+1)
def a2i(ops:List Oper)(k:Nat):Option Nat:=(ops[k]?).bind (·.dst)
def b4q(ops:List Oper)(m bits t:Nat):Bool:=(List.range m).any fun k=>match a2i ops k with
 | some d=>match Nat.beq d t with
  | true => !Nat.testBit bits k
  | false=>false
 | none=>false
def evR(ops:List Oper)(m bits:Nat)(s:a0c):Operand→AV
 | .tmp t=>match b4q ops m bits t with
  | true => .any
  | false=>s.eval (.tmp t)
 | x=>s.eval x
def lkR(ops:List Oper)(m bits:Nat)(s:a0c)(id:Nat):Option a0f:=match b4q ops m bits id with
 | true=>none
 | false=>s.look id
def c4d:Op→Bool
 | .alloc _ | .box .. | .buildSlice .. | .makeSlice .. | .makeMap .. => true
 | .call c=>match c.callee with
  | .builtin .append=>true
  | _=>false
 | _=>false
def a0c.fresh(s:a0c)(o:Oper):a0c :=
 match c4d o.op,o.dst with
 | true,some d=>let s':=s.sweep d
  { s' with objs:=a1u d s'.objs }
 | _,_=>s
def a0c.layN(s:a0c)(d:Option Nat)(v:AV)(o:Option a0f):a0c :=
 match d with
 | some d=>{ slots:=s.slots.set d v,objs:=match o with
  | some o=>(d,o)::s.objs
  | none=>s.objs }
 | none=>s
def e3m(E:Env)(ops:List Oper)(m bits:Nat)(o:Oper)(K:a0c→Prop)(s:a0c):Prop :=
 match b3y E s o with
 | []=>match qop E (lkR ops m bits s) (evR ops m bits s) o with
  | some (vc,v,ob)=>vc.and (K (s.layN o.dst v ob))
  | none=>False
 | _=>False
def b4k(E:Env)(ops:List Oper)(m:Nat)(anc:List Nat):Nat→List Oper→List (Nat×Bool)→(List (Nat×Bool)→a0c→Prop)→a0c→Prop
 | _,[],kn,Q,s=>Q kn s
 | i,o::r,kn,Q,s=>match o.guard with
  | none=>e3m E ops m (anc.getD i 0) o (b4k E ops m anc (i+1) r kn Q) s
  | some (g,want)=>match a2i ops g,Nat.testBit (anc.getD i 0) g with
   | some t,true=>match a0k kn t with
    | some b=>match s.eval (.tmp t) with
     | .imm ⟨.bool,b'⟩=>match b' == b,b == want with
      | true,true=>e3m E ops m (anc.getD i 0) o (b4k E ops m anc (i+1) r kn Q) s
      | true,false=>b4k E ops m anc (i+1) r kn Q (s.put o.dst .undf)
      | false,_=>False
     | .undf=>b4k E ops m anc (i+1) r kn Q (s.put o.dst .undf)
     | _=>False
    | none=>match s.eval (.tmp t) with
     | .imm ⟨.bool,b⟩ =>
      (b=want→e3m E ops m (anc.getD i 0) o (b4k E ops m anc (i+1) r ((t,want)::kn) Q) (s.put (some t) (.imm ⟨.bool,want⟩))) ∧
      (b = !want→b4k E ops m anc (i+1) r ((t,!want)::kn) Q ((s.put (some t) (.imm ⟨.bool,!want⟩)).put o.dst .undf))
     | .undf=>b4k E ops m anc (i+1) r kn Q (s.put o.dst .undf)
     | _=>False
   | _,_=>False
def d7g:List (Option Nat)→Bool
 | []=>true
 | none::_=>false
 | some d::r=>match r.any fun x=>match x with
   | some e=>Nat.beq d e
   | none=>false with
  | true=>false
  | false=>d7g r
def b3s(ops:List Oper):Bool:=(List.range ops.length).all fun i=>match ops[i]? with
 | some o=>o.after.toList.all fun e=>match Region.binds .any e with
  | true=>Nat.blt e.on i
  | false=>true
 | none=>true
def c4h(ops:List Oper)(s:a0c)(K:Prop):Prop :=
 match ops with
 | []=>K
 | o::r=>match f3l o.op,o.dst with
  | true,some d=>e4e (s.slots.getD d .any) (c4h r s K)
  | _,_=>c4h r s K
def f1r(anc:List Nat)(p:Nat):Bool:=(anc.drop p).all fun b=>Nat.beq (b % 2 ^ p) (2 ^ p - 1)
def f9p(anc:List Nat):List Nat→List Nat
 | []=>[]
 | p::r=>match f1r anc p with
  | true=>p::f9p anc r
  | false=>f9p anc r
def c5m:List (Option Nat)→Bool
 | []=>true
 | none::r=>c5m r
 | some d::r=>match r.any fun x=>match x with
   | some e=>Nat.beq d e
   | none=>false with
  | true=>false
  | false=>c5m r
def d5d(l:List Oper)(lo hi:Nat):Bool :=
 (((l.take hi).drop lo).all fun o=>c0n o.dst)&&c5m (((l.take hi).drop lo).map (·.dst))&&(l.take lo).all fun o=>match o.dst with
  | none=>true
  | some d => !(((l.take hi).drop lo).any fun p=>match p.dst with
   | some e=>Nat.beq d e
   | none=>false)
def Oper.alone(E:Env)(o:Oper):Bool:=match o.op with
 | .store .. | .mapUpdate .. | .insert .. => true
 | _=>match o.dst with
  | some d=>E.own.contains d
  | none=>false
def c1i(u v:TV):Prop:=match u.as v.τ with
 | some x=>x=v.x
 | none=>False
def f8x:Op→Option (List Operand)
 | .move x | .assign x | .nilCheck x | .fieldAddr _ x _ | .load _ x | .box _ x | .extract x _=>some [x]
 | .indexAddr _ x i | .store _ x i | .lookup _ x i _=>some [x,i]
 | .mapUpdate _ m k x | .insert _ m k x=>some [m,k,x]
 | .makeMap _ none=>some []
 | .alloc _=>some []
 | .binOp _ _ x y _=>some [x,y]
 | .build _ ps=>some (ps.toList.map (·.2))
 | .buildSlice _ _ ps=>some (ps.toList.map (·.2))
 | .call c=>match c.callee with
  | .value f=>some (f::c.args.toList)
  | .builtin _=>some c.args.toList
  | _=>none
 | _=>none
def a9c(D:List Nat)(o:Oper):Bool:=match f8x o.op with
 | some l=>l.all fun x=>match x with
  | .tmp t => !D.contains t
  | _=>true
 | none=>false
def e4i:Op→Bool
 | .move _ | .nilCheck _ | .fieldAddr .. | .load .. | .indexAddr .. => true
 | _=>false
def rop(E:Env)(s:a0c)(o:Oper):Option (Vc×AV):=match e4i o.op with
 | true=>match qop E s.look s.eval o with
  | some (vc,v,none)=>some (vc,v)
  | _=>none
 | false=>none
def e4a:AV→AV→Prop
 | .imm v, .imm u=>c1i v u
 | .pimm v, .pimm u=>c1i v u
 | .tree i, .tree j=>i=j
 | .row i, .row j=>i=j
 | .ptr i p, .ptr j q=>i=j∧p=q
 | .nil, .nil=>True
 | _,_=>False
def f4j:List AV→List AV→Prop
 | [],[]=>True
 | a::as,b::bs=>e4a a b∧f4j as bs
 | _,_=>False
def f9k(a b:AV):Prop:=match a,b with
 | .agg as, .agg bs=>f4j as bs
 | a,b=>e4a a b
def c2l(E:Env):List (Nat×Oper)→a0c→Prop→Prop
 | [],_,K=>K
 | r::rs,s,K=>match r.2.dst,rop E s r.2 with
  | some d,some (vc,v)=>vc.and (f9k v (s.slots.getD d .any)∧c2l E rs s K)
  | _,_=>False
def e4b(E:Env):List (Nat×Oper)→(a0c→Prop)→a0c→Prop
 | [],K,s=>K s
 | r::rs,K,s=>match r.2.dst,rop E s r.2 with
  | some d,some (vc,v)=>vc.and (e4e v (e4b E rs K (s.put (some d) v)))
  | _,_=>False
def c2q(R:List (Nat×Oper)):List Nat:=R.filterMap fun r=>r.2.dst
def c1o:Op→Bool
 | .alloc _=>true
 | _=>false
def b2m:Op→Bool
 | .extract .. => true
 | _=>false
def c5p:Op→Bool
 | .buildSlice _ len ps=>Nat.beq len 0&&Nat.beq ps.size 0
 | _=>false
def a7d(op:Op):Bool:=c1o op||(b2m op||c5p op)
def d5x(X:List (Nat×Oper)):List Nat:=X.filterMap fun x=>match a7d x.2.op with
 | true=>x.2.dst
 | false=>none
def c8f(s:a0c):Op→Bool
 | .extract t i=>match s.eval t with
  | .tup vs=>Nat.blt i vs.length
  | _=>false
 | _=>true
def g4y(anc:List Nat)(X:List (Nat×Oper))(s:a0c):Bool:=X.all fun e=>c8f s e.2.op||X.any fun y => !a7d y.2.op&&Nat.testBit (anc.getD e.1 0) y.1
def e4d(anc:List Nat)(x:Nat×Oper):List (Nat×Oper)→List (Nat×Oper)
 | []=>[x]
 | y::ys=>match Nat.testBit (anc.getD y.1 0) x.1 with
  | true=>x::y::ys
  | false=>y::e4d anc x ys
def d7p(anc:List Nat):List (Nat×Oper)→List (Nat×Oper)
 | []=>[]
 | x::xs=>match a7d x.2.op with
  | true=>e4d anc x (d7p anc xs)
  | false=>x::d7p anc xs
def b8t(E:Env)(o:Oper):Bool:=match o.op with
 | .alloc T=>o.dst.isSome&&(c0n o.dst&&(a0k E.ty T).isSome)
 | .extract .. => o.dst.isSome
 | .buildSlice T len ps => !(Nat.beq len 0&&Nat.beq ps.size 0)||(match o.dst,a0k E.ty T with
  | some d,some (.slice _,_)=>Nat.blt d 400000&&(E.ro.contains d && !E.own.contains d)
  | _,_=>false)
 | _=>true
def c1k(E:Env)(anc:List Nat):List (Nat×Oper)→List (Nat×Oper)→(a0c→Prop)→a0c→Prop
 | _,[],K,s=>K s
 | R,x::xs,K,s=>match g4y anc (x::xs) s&&(a9c (c2q (R.filter fun r => !Nat.testBit (anc.getD x.1 0) r.1)++d5x xs) x.2&&xs.all fun y=>a7d y.2.op||Nat.testBit (anc.getD y.1 0) x.1) with
  | true=>b9o E x.2 (fun s'=>c2l E (R.filter fun r => !Nat.testBit (anc.getD x.1 0) r.1) s' (c1k E anc (R.filter fun r => !Nat.testBit (anc.getD x.1 0) r.1) xs K s')) s
  | false=>False
def b3q:Nat→List Oper→List (Nat×Oper)
 | _,[]=>[]
 | i,o::r=>(i,o)::b3q (i+1) r
def b5g(anc:List Nat)(seg:List (Nat×Oper))(r:Nat×Oper):Bool :=
 e4i r.2.op&&seg.all fun y=>e4i y.2.op || !Nat.testBit (anc.getD r.1 0) y.1
def g7v(E:Env)(anc:List Nat)(seg:List (Nat×Oper)):Bool :=
 (seg.all fun r=>r.2.guard.isNone&&b8t E r.2)&&seg.all fun r => !(b5g anc seg r||b2m r.2.op)||a9c (c2q (seg.filter fun y => !Nat.testBit (anc.getD r.1 0) y.1)++bif b2m r.2.op then d5x seg else []) r.2
def g4l(E:Env)(anc:List Nat)(seg:List (Nat×Oper))(K:a0c→Prop)(s:a0c):Prop :=
 match g7v E anc seg with
 | true=>e4b E (seg.filter (b5g anc seg)) (fun s'=>c2l E (seg.filter (b5g anc seg)) s' (c1k E anc (seg.filter (b5g anc seg)) (d7p anc (seg.filter fun r => !b5g anc seg r)) K s')) s
 | false=>False
def c4c(E:Env)(ops:Array Oper)(l:List Oper)(anc:List Nat):List Nat→Nat→List (Nat×Bool)→(a0c→Prop)→a0c→Prop
 | [],lo,_,Q,s=>match Nat.beq lo l.length with
  | true=>Q s
  | false=>False
 | hi::r,lo,kn,Q,s=>match f1r anc hi&&(f1r anc lo&&(Nat.blt lo hi&&Nat.ble hi l.length)) with
  | true=>match Nat.beq hi (lo+1) with
   | true=>a5d E ops ((l.take hi).drop lo) kn (c4c E ops l anc r hi kn Q) s
   | false=>match d5d l lo hi,((l.take hi).drop lo).any (Oper.alone E) with
    | true,true=>g4l E anc (b3q lo ((l.take hi).drop lo)) (c4c E ops l anc r hi kn Q) s
    | true,false=>b4k E l hi anc lo ((l.take hi).drop lo) kn (fun kn s=>c4h ((l.take hi).drop lo) s (c4c E ops l anc r hi kn Q s)) (((l.take hi).drop lo).foldl a0c.fresh s)
    | false,_=>False
  | false=>False
def f4l(E:Env)(ops:Array Oper)(Q:a0c→Prop)(s:a0c):Prop :=
 let l:=ops.toList
 let anc:=a1v l []
 let m:=b6x anc 0 0
 match ((l.take m).all fun o=>c0n o.dst)&&(d7g ((l.take m).map (·.dst))&&b3s l) with
 | true=>b4k E l m anc 0 (l.take m) [] (fun kn s=>c4h (l.take m) s (a5d E ops (l.drop m) kn Q s)) ((l.take m).foldl a0c.fresh s)
 | false=>False
def f4k(E:Env)(ops:Array Oper)(Q:a0c→Prop)(s:a0c):Prop :=
 let l:=ops.toList
 let anc:=a1v l []
 match (l.take (b6x anc 0 0)).any (Oper.alone E) with
 | false=>f4l E ops Q s
 | true=>match b3s l with
  | true=>c4c E ops l anc (f9p anc ((List.range l.length).map (·+1))) 0 [] Q s
  | false=>False
inductive a0t:Type 1 where
 | none
 | mk (ι:Type) (P:ι→Prop) (μ:ι→Nat) (fz dead:List Nat) (ins:ι→List (Nat×AV)) (keep:List Nat) (os:ι→List (Nat×a0f)) (ren0 ren:List (Nat×Nat)) (sub:ι→Nat→a0t)
def Code.asg:Code→List Nat
 | .region _ ops _=>ops.toList.filterMap (·.dst)
 | .seq a b=>Code.asg a++Code.asg b
 | .cond _ a b=>Code.asg a++Code.asg b
 | .block _ c=>Code.asg c
 | .loop c=>Code.asg c
 | .scope c=>Code.asg c
 | _=>[]
def Code.first:Code→Option Nat
 | .region id _ _=>some id
 | .seq a _=>Code.first a
 | .block _ c=>Code.first c
 | .loop c=>Code.first c
 | .cond _ a _=>Code.first a
 | _=>none
def Code.joinAt(Λ:Nat→a0t)(b:Code):a0t:=match Code.first b with
 | some r=>Λ (r+100000)
 | none => .none
def g5l(sl:List AV):List (Nat×AV)→List AV
 | []=>sl
 | (t,v)::r=>g5l (sl.set t v) r
def e8t(keep:List Nat):List (Nat×a0f)→List (Nat×a0f)
 | []=>[]
 | (k,o)::r=>match keep.contains k with
  | true=>(k,o)::e8t keep r
  | false=>e8t keep r
def c1n(s:a0c)(asg:List Nat)(ins:List (Nat×AV))(keep:List Nat)(os:List (Nat×a0f)):a0c :=
 { slots:=g5l (asg.foldl (fun l t=>l.set t .any) s.slots) ins,objs:=os++e8t keep s.objs }
def a3d(ρ:List (Nat×Nat))(id:Nat):Nat:=match a0k ρ id with
 | some k=>k
 | none=>id
def c5c:Option a0f→Bool
 | some (.row ..)=>true
 | _=>false
def a5n:Option a0f→Bool
 | some (.box _)=>true
 | _=>false
def d7n:Option a0f→Bool
 | some (.map _)=>true
 | _=>false
def AV.fit1(ρ:List (Nat×Nat))(s t:a0c)(a b:AV):Prop :=
 match b with
 | .any=>True
 | .imm v=>match a with
  | .imm u=>c1i u v
  | .nil=>match v with
   | ⟨.slice _,xs⟩=>xs=[]
   | _=>False
  | _=>False
 | .nil=>match a with
  | .nil=>True
  | _=>False
 | .pimm v=>match a with
  | .pimm u=>c1i u v
  | _=>False
 | .ptr id off=>match a with
  | .ptr i o=>match Nat.beq i (a3d ρ id)&&Nat.beq o off&&a5n (t.look id) with
   | true=>True
   | false=>False
  | _=>False
 | .row id=>match a with
  | .row i=>match Nat.beq i (a3d ρ id)&&c5c (t.look id) with
   | true=>True
   | false=>False
  | .nil=>match c5c (t.look id),s.look (a3d ρ id) with
   | true,Option.none=>True
   | _,_=>False
  | _=>False
 | .tree id=>match a with
  | .tree i=>match Nat.beq i (a3d ρ id)&&a3e (t.look id) with
   | true=>True
   | false=>False
  | .nil=>match a3e (t.look id),s.look (a3d ρ id) with
   | true,Option.none=>True
   | _,_=>False
  | _=>False
 | .fn f=>match a with
  | .fn g=>match Nat.beq f g with
   | true=>True
   | false=>False
  | _=>False
 | .mp id=>match a with
  | .mp i=>match Nat.beq i (a3d ρ id)&&d7n (t.look id) with
   | true=>True
   | false=>False
  | _=>False
 | _=>False
def d3q(ρ:List (Nat×Nat))(s t:a0c):List AV→List AV→Prop
 | [],[]=>True
 | a::as,b::bs=>match b with
  | .any=>d3q ρ s t as bs
  | b=>AV.fit1 ρ s t a b∧d3q ρ s t as bs
 | _,_=>False
def AV.fit0(ρ:List (Nat×Nat))(s t:a0c)(a b:AV):Prop :=
 match a,b with
 | .agg as, .agg bs=>d3q ρ s t as bs
 | a,b=>AV.fit1 ρ s t a b
def f9w(ρ:List (Nat×Nat))(s t:a0c):List AV→List AV→Prop
 | [],[]=>True
 | a::as,b::bs=>match b with
  | .any=>f9w ρ s t as bs
  | b=>AV.fit0 ρ s t a b∧f9w ρ s t as bs
 | _,_=>False
def g2q(u v:FV):Prop:=match u.as v.ps v.r with
 | some F=>F=v.F
 | none=>False
def AV.fit(ρ:List (Nat×Nat))(s t:a0c)(a b:AV):Prop :=
 match a,b with
 | .clo f as, .clo g bs=>match Nat.beq f g with
  | true=>f9w ρ s t as bs
  | false=>False
 | .fun_ u, .fun_ v=>g2q u v
 | .agg as, .agg bs=>d3q ρ s t as bs
 | .agg as, .imm v=>match asT (fun _=>none) v.τ (.agg as) with
  | some x=>x=v.x
  | none=>False
 | a,b=>AV.fit1 ρ s t a b
def c9v(ρ:List (Nat×Nat))(s t:a0c):List AV→List AV→Prop
 | [],[]=>True
 | a::as,b::bs=>match b with
  | .any=>c9v ρ s t as bs
  | b=>AV.fit ρ s t a b∧c9v ρ s t as bs
 | _,_=>False
def toO(x:a0b):b6h:=⟨x.kind,x.num,some x.kids⟩
def g0v(τ':Ty)(ys:List τ'.den)(τ:Ty)(xs:List τ.den):Prop :=
 match decide (τ = .st .oExpr),decide (τ' = .st .expr) with
 | true,true=>c1i ⟨.slice (.st .oExpr),((show Option (List a0b) from TV.as (.slice (.st .expr)) ⟨.slice τ',ys⟩).getD []).map toO⟩ ⟨.slice τ,xs⟩
 | _,_=>c1i ⟨.slice τ',ys⟩ ⟨.slice τ,xs⟩
def g3e(a b:MV):Prop:=match a.as b.κ b.ε with
 | some (f,n)=>f=b.f∧n=b.n
 | none=>False
def b2d(ρ:List (Nat×Nat))(s t:a0c):List (Nat×a0f)→Prop
 | []=>True
 | (id, .box bs)::r=>match s.look (a3d ρ id) with
  | some (.box as)=>d3q ρ s t as bs∧b2d ρ s t r
  | _=>False
 | (id, .row e τ xs)::r=>match s.look (a3d ρ id) with
  | some (.row e' τ' ys)=>match Nat.beq e e' with
   | true=>c1i ⟨.slice τ',ys⟩ ⟨.slice τ,xs⟩∧b2d ρ s t r
   | false=>False
  | Option.none=>xs=[]∧b2d ρ s t r
  | _=>False
 | (id, .tree τ xs)::r=>match s.look (a3d ρ id) with
  | some (.tree τ' ys)=>g0v τ' ys τ xs∧b2d ρ s t r
  | Option.none=>xs=[]∧b2d ρ s t r
  | _=>False
 | (id, .map m)::r=>match s.look (a3d ρ id) with
  | some (.map m')=>g3e m' m∧b2d ρ s t r
  | _=>False
def g2i(ρ:List (Nat×Nat))(s t:a0c):Prop :=
 match (a6b (t.objs.map (·.1))&&a6b (t.objs.map fun p=>a3d ρ p.1))&&t.objs.all (fun p=>Nat.blt p.1 50||(Nat.ble 100 p.1||(Nat.beq (a3d ρ p.1) p.1&&a3e (s.look p.1))))&&t.objs.all (fun p=>Nat.blt p.1 400000||(!a5n (some p.2)||(Nat.beq (a3d ρ p.1) p.1&&a5n (s.look p.1)))) with
 | true=>c9v ρ s t s.slots t.slots∧b2d ρ s t t.objs
 | false=>False
def g7w(ρ:List (Nat×Nat))(a b:AV):List (Nat×Nat):=match b with
 | .tree k=>match a with
  | .tree i=>match Nat.beq i (a3d ρ k) with
   | true=>[]
   | false=>[(k,i)]
  | _=>[]
 | _=>[]
def g3h(ρ:List (Nat×Nat)):List AV→List AV→List (Nat×Nat)
 | a::as,b::bs=>g7w ρ a b++g3h ρ as bs
 | _,_=>[]
def h0l(ρ:List (Nat×Nat))(a b:AV):List (Nat×Nat):=match b with
 | .agg bs=>match a with
  | .agg as=>g3h ρ as bs
  | _=>[]
 | b=>g7w ρ a b
def f7l(ρ:List (Nat×Nat)):List AV→List AV→List (Nat×Nat)
 | a::as,b::bs=>h0l ρ a b++f7l ρ as bs
 | _,_=>[]
def d8c(ρ:List (Nat×Nat))(s:a0c):List (Nat×a0f)→List (Nat×Nat)
 | []=>[]
 | (id, .box bs)::r=>match s.look (a3d ρ id) with
  | some (.box as)=>g3h ρ as bs++d8c ρ s r
  | _=>d8c ρ s r
 | _::r=>d8c ρ s r
def g0a:List (Nat×Nat)→(List (Nat×Nat)→Prop)→Prop
 | [],K=>K []
 | (a,b)::r,K=>g0a r fun r'=>K ((a,b)::r')
theorem e6u:∀ {l:List (Nat×Nat)} {K:List (Nat×Nat)→Prop},g0a l K→K l
 | [],_,h=>h
 | (a,b)::r,K,h=>e6u (l:=r) (K:=fun r'=>K ((a,b)::r')) h
def f0e(ρ:List (Nat×Nat))(s t:a0c):Prop:=g0a (d8c ρ s t.objs++f7l ρ s.slots t.slots) fun r=>g2i (r++ρ) s t
theorem f0e.ex{ρ:List (Nat×Nat)}{s t:a0c}(h:f0e ρ s t):∃ r,g2i (r++ρ) s t:=⟨_,e6u h⟩
def awp(E:Env):Code→(Nat→a0t)→Nat→(Exit→a0c→Prop)→a0c→Prop
 | .skip,_,_,Q,s=>Q .normal s
 | .region _ ops draw,_,_,Q,s=>match draw with
  | true=>f4k E ops (Q .normal) s
  | false=>a5d E ops ops.toList [] (Q .normal) s
 | .seq a b,Λ,cur,Q,s=>match Code.joinAt Λ b with
  | .none=>awp E a Λ cur (fun e s'=>match e with
   | .normal=>awp E b Λ cur Q s'
   | e=>Q e s') s
  | .mk ι P _ fz dead ins keep os ren0 _ sub =>
   let asg:=dead++Code.asg a
   awp E a Λ cur (fun e s'=>match e with
    | .normal=>∃ j:ι,P j∧f0e ren0 (fz.foldl a0c.freeze s') (c1n s asg (ins j) keep (os j))
    | e=>Q e s') s ∧
   ∀ i:ι,P i→awp E b (sub i) cur Q (c1n s asg (ins i) keep (os i))
 | .cond c a b,Λ,cur,Q,s=>match s.eval c with
  | .imm ⟨.bool,t⟩=>(t=true→awp E a Λ cur Q s)∧(t=false→awp E b Λ cur Q s)
  | _=>False
 | .block id c,Λ,_,Q,s=>awp E c Λ id (fun e s'=>match e with
  | .exit i=>match Nat.beq i id with
   | true=>Q .normal s'
   | false=>Q (.exit i) s'
  | e=>Q e s') s
 | .loop c,Λ,cur,Q,s=>match Λ cur with
  | .none=>False
  | .mk ι P μ fz dead ins keep os ren0 ren sub =>
   let asg:=dead++Code.asg c
   (∃ i:ι,P i∧f0e ren0 (fz.foldl a0c.freeze s) (c1n s asg (ins i) keep (os i))) ∧
   ∀ i:ι,P i→awp E c (sub i) cur (fun e s'=>match e with
    | .normal=>∃ j:ι,P j∧μ j<μ i∧f0e ren (fz.foldl a0c.freeze s') (c1n s asg (ins j) keep (os j))
    | e=>Q e s') (c1n s asg (ins i) keep (os i))
 | .exit id,_,_,Q,s=>Q (.exit id) s
 | .ret,_,_,Q,s=>Q .ret s
 | .label _,_,_,Q,s=>Q .normal s
 | _,_,_,_,_=>False
def e4j(E:Env)(s:a0c):List ResultVar→List TypeId→Option (List TV)
 | [],[]=>some []
 | r::rs,T::Ts=>match a0k E.ty T with
  | some (τ,_)=>match (match r with
    | .tmp t=>asT (d7t s.look) τ (s.eval (.tmp t))
    | .cell a t=>match Nat.beq t T with
     | true=>d1v (d7t s.look) τ (s.eval (.tmp a))
     | false=>none) with
   | some x=>match e4j E s rs Ts with
    | some l=>some (⟨τ,x⟩::l)
    | none=>none
   | none=>none
  | none=>none
 | _,_=>none
def f0u:Arg→AV
 | .val v => .imm v
 | .ref v => .pimm v
 | .fn f => .fn f
 | .clo v => .fun_ v
 | .own _ => .any
 | .box _ => .any
def a0r(fn:Func)(args:List Arg):a0c :=
 { slots:=args.map f0u++List.replicate (fn.ntmps - args.length) .any,objs:=[] }
def c1g:Nat→List Arg→a0c→a0c
 | _,[],s=>s
 | p, .own v::r,s=>c1g (p+1) r { slots:=s.slots.set p (a9a (1000000+100 * p) v),objs:=a2c (1000000+100 * p) v.cells++s.objs }
 | p,_::r,s=>c1g (p+1) r s
def a7h(fn:Func)(args:List Arg):a0c:=c1g 0 args (a0r fn args)
def a1h(E:Env)(fn:Func)(post:List TV→Prop)(e:Exit)(s:a0c):Prop :=
 match e with
 | .ret | .normal=>match e4j E s fn.results.toList fn.resultTypes.toList with
  | some vs=>post vs
  | none=>False
 | _=>False
def a1e:List TV→List TV→Prop
 | [],[]=>True
 | [v],[u]=>c1i v u
 | v::vs,u::us=>c1i v u∧a1e vs us
 | _,_=>False
end
end Go.Proofs.Ytlaoejdeanljgaa

/- The data types of the program as Lean types; tables of their fields and cells. Printed by gen_types.py. -/
import Derived.KernelRfl
import GoSem.Claim
set_option linter.unusedVariables false
set_option linter.unusedSimpArgs false
namespace Go.Proofs.Ytlaoejdeanljgaa
def g7r:List Nat:=[]
inductive D where
 | int (k:IntKind) (n:Int)
 | bool (b:Bool)
 | str (s:List UInt8)
 | slice (n:Nat) (xs:List D)
 | agg (xs:List D)
 | hole
 | ptr
def mvD{α:Type}(n:Nat)(f:α→D):Option (List α)→D
 | none => .hole
 | some l => .slice n (l.map f)
inductive a0o where
 | sig
 | expr
 | oExpr
 | prog
 | l00Src
 | l01Gen
 | l06Gen
 deriving DecidableEq
inductive Ty where
 | int (k:IntKind)
 | bool
 | str
 | slice (t:Ty)
 | st (s:a0o)
 | mv (t:Ty)
 | ptr
 deriving DecidableEq
structure a0l where
 tests:Int
 actions:Int
structure a0b where
 kind:Int
 num:Int
 kids:List (a0b)
structure b6h where
 kind:Int
 num:Int
 kids:Option (List (a0b))
structure a0a where
 kind:Int
 num:Int
 cond:a0b
 kids:List (a0a)
structure b4g where
 code:List (Int)
 pos:Int
 seed:Int
structure b4h where
 s:Unit
 g:a0l
 left:Int
structure b4i where
 s:Unit
 g:a0l
 left:Int
@[reducible] def a0o.den:a0o→Type
 | .sig=>a0l
 | .expr=>a0b
 | .oExpr=>b6h
 | .prog=>a0a
 | .l00Src=>b4g
 | .l01Gen=>b4h
 | .l06Gen=>b4i
@[reducible] def Ty.den:Ty→Type
 | .int _=>Int
 | .bool=>Bool
 | .str=>List UInt8
 | .slice t=>List t.den
 | .st s=>s.den
 | .mv t=>Option (List t.den)
 | .ptr=>Unit
structure TV where
 τ:Ty
 x:τ.den
def TV.as(τ:Ty)(v:TV):Option τ.den:=if h:v.τ=τ then some (h ▸ v.x) else none
theorem TV.as_some{τ:Ty}{v:TV}{x:τ.den}(h:v.as τ=some x):v=⟨τ,x⟩:=by
 unfold TV.as at h
 split at h
 ·rename_i e
  subst e
  cases v
  simp at h
  subst h
  rfl
 ·cases h
@[simp] theorem TV.as_mk(τ:Ty)(x:τ.den):TV.as τ ⟨τ,x⟩=some x:=by simp[TV.as]
def a0o.fields:(s:a0o)→s.den→List TV
 | .sig,x=>[⟨.int .i64,x.tests⟩,⟨.int .i64,x.actions⟩]
 | .expr,x=>[⟨.int .i64,x.kind⟩,⟨.int .i64,x.num⟩,⟨.slice (.st .expr),x.kids⟩]
 | .oExpr,x=>[⟨.int .i64,x.kind⟩,⟨.int .i64,x.num⟩,⟨.mv (.st .expr),x.kids⟩]
 | .prog,x=>[⟨.int .i64,x.kind⟩,⟨.int .i64,x.num⟩,⟨.st .expr,x.cond⟩,⟨.slice (.st .prog),x.kids⟩]
 | .l00Src,x=>[⟨.slice (.int .u8),x.code⟩,⟨.int .i64,x.pos⟩,⟨.int .u64,x.seed⟩]
 | .l01Gen,x=>[⟨.ptr,x.s⟩,⟨.st .sig,x.g⟩,⟨.int .i64,x.left⟩]
 | .l06Gen,x=>[⟨.ptr,x.s⟩,⟨.st .sig,x.g⟩,⟨.int .i64,x.left⟩]
def a0o.cells:(s:a0o)→s.den→List TV
 | .sig,x=>[⟨.int .i64,x.tests⟩,⟨.int .i64,x.actions⟩]
 | .expr,x=>[⟨.int .i64,x.kind⟩,⟨.int .i64,x.num⟩,⟨.slice (.st .expr),x.kids⟩]
 | .oExpr,x=>[⟨.int .i64,x.kind⟩,⟨.int .i64,x.num⟩,⟨.mv (.st .expr),x.kids⟩]
 | .prog,x=>[⟨.int .i64,x.kind⟩,⟨.int .i64,x.num⟩,⟨.int .i64,x.cond.kind⟩,⟨.int .i64,x.cond.num⟩,⟨.slice (.st .expr),x.cond.kids⟩,⟨.slice (.st .prog),x.kids⟩]
 | .l00Src,x=>[⟨.slice (.int .u8),x.code⟩,⟨.int .i64,x.pos⟩,⟨.int .u64,x.seed⟩]
 | .l01Gen,x=>[⟨.ptr,x.s⟩,⟨.int .i64,x.g.tests⟩,⟨.int .i64,x.g.actions⟩,⟨.int .i64,x.left⟩]
 | .l06Gen,x=>[⟨.ptr,x.s⟩,⟨.int .i64,x.g.tests⟩,⟨.int .i64,x.g.actions⟩,⟨.int .i64,x.left⟩]
def a0o.size:a0o→Nat
 | .sig=>2
 | .expr=>3
 | .oExpr=>3
 | .prog=>6
 | .l00Src=>3
 | .l01Gen=>4
 | .l06Gen=>4
def a0o.ctys:a0o→List Ty
 | .sig=>[.int .i64, .int .i64]
 | .expr=>[.int .i64, .int .i64, .slice (.st .expr)]
 | .oExpr=>[.int .i64, .int .i64, .mv (.st .expr)]
 | .prog=>[.int .i64, .int .i64, .int .i64, .int .i64, .slice (.st .expr), .slice (.st .prog)]
 | .l00Src=>[.slice (.int .u8), .int .i64, .int .u64]
 | .l01Gen=>[.ptr, .int .i64, .int .i64, .int .i64]
 | .l06Gen=>[.ptr, .int .i64, .int .i64, .int .i64]
def a0o.ftys:a0o→List Ty
 | .sig=>[.int .i64, .int .i64]
 | .expr=>[.int .i64, .int .i64, .slice (.st .expr)]
 | .oExpr=>[.int .i64, .int .i64, .mv (.st .expr)]
 | .prog=>[.int .i64, .int .i64, .st .expr, .slice (.st .prog)]
 | .l00Src=>[.slice (.int .u8), .int .i64, .int .u64]
 | .l01Gen=>[.ptr, .st .sig, .int .i64]
 | .l06Gen=>[.ptr, .st .sig, .int .i64]
def a0o.ofCells:(s:a0o)→List TV→Option s.den
 | .sig,[a0,a1]=>(a0.as (.int .i64)).bind fun b0=>(a1.as (.int .i64)).bind fun b1=>some (a0l.mk b0 b1)
 | .expr,[a0,a1,a2]=>(a0.as (.int .i64)).bind fun b0=>(a1.as (.int .i64)).bind fun b1=>(a2.as (.slice (.st .expr))).bind fun b2=>some (a0b.mk b0 b1 b2)
 | .oExpr,[a0,a1,a2]=>(a0.as (.int .i64)).bind fun b0=>(a1.as (.int .i64)).bind fun b1=>(a2.as (.mv (.st .expr))).bind fun b2=>some (b6h.mk b0 b1 b2)
 | .prog,[a0,a1,a2,a3,a4,a5]=>(a0.as (.int .i64)).bind fun b0=>(a1.as (.int .i64)).bind fun b1=>(a2.as (.int .i64)).bind fun b2=>(a3.as (.int .i64)).bind fun b3=>(a4.as (.slice (.st .expr))).bind fun b4=>(a5.as (.slice (.st .prog))).bind fun b5=>some (a0a.mk b0 b1 (a0b.mk b2 b3 b4) b5)
 | .l00Src,[a0,a1,a2]=>(a0.as (.slice (.int .u8))).bind fun b0=>(a1.as (.int .i64)).bind fun b1=>(a2.as (.int .u64)).bind fun b2=>some (b4g.mk b0 b1 b2)
 | .l01Gen,[a0,a1,a2,a3]=>(a0.as (.ptr)).bind fun b0=>(a1.as (.int .i64)).bind fun b1=>(a2.as (.int .i64)).bind fun b2=>(a3.as (.int .i64)).bind fun b3=>some (b4h.mk b0 (a0l.mk b1 b2) b3)
 | .l06Gen,[a0,a1,a2,a3]=>(a0.as (.ptr)).bind fun b0=>(a1.as (.int .i64)).bind fun b1=>(a2.as (.int .i64)).bind fun b2=>(a3.as (.int .i64)).bind fun b3=>some (b4i.mk b0 (a0l.mk b1 b2) b3)
 | _,_=>none
theorem a0o.ofCells_some:∀ {s:a0o} {l:List TV} {x:s.den},s.ofCells l=some x→s.cells x=l:=by
 intro s l x h
 cases s
 case sig =>
  match l,h with
  | [a0,a1],h =>
   simp only[a0o.ofCells,Option.bind_eq_some_iff,Option.some.injEq] at h
   obtain⟨b0,h0,⟨b1,h1,rfl⟩⟩:=h
   have e0:=TV.as_some h0;have e1:=TV.as_some h1
   subst e0 e1
   rfl
 case expr =>
  match l,h with
  | [a0,a1,a2],h =>
   simp only[a0o.ofCells,Option.bind_eq_some_iff,Option.some.injEq] at h
   obtain⟨b0,h0,⟨b1,h1,⟨b2,h2,rfl⟩⟩⟩:=h
   have e0:=TV.as_some h0;have e1:=TV.as_some h1;have e2:=TV.as_some h2
   subst e0 e1 e2
   rfl
 case oExpr =>
  match l,h with
  | [a0,a1,a2],h =>
   simp only[a0o.ofCells,Option.bind_eq_some_iff,Option.some.injEq] at h
   obtain⟨b0,h0,⟨b1,h1,⟨b2,h2,rfl⟩⟩⟩:=h
   have e0:=TV.as_some h0;have e1:=TV.as_some h1;have e2:=TV.as_some h2
   subst e0 e1 e2
   rfl
 case prog =>
  match l,h with
  | [a0,a1,a2,a3,a4,a5],h =>
   simp only[a0o.ofCells,Option.bind_eq_some_iff,Option.some.injEq] at h
   obtain⟨b0,h0,⟨b1,h1,⟨b2,h2,⟨b3,h3,⟨b4,h4,⟨b5,h5,rfl⟩⟩⟩⟩⟩⟩:=h
   have e0:=TV.as_some h0;have e1:=TV.as_some h1;have e2:=TV.as_some h2;have e3:=TV.as_some h3;have e4:=TV.as_some h4;have e5:=TV.as_some h5
   subst e0 e1 e2 e3 e4 e5
   rfl
 case l00Src =>
  match l,h with
  | [a0,a1,a2],h =>
   simp only[a0o.ofCells,Option.bind_eq_some_iff,Option.some.injEq] at h
   obtain⟨b0,h0,⟨b1,h1,⟨b2,h2,rfl⟩⟩⟩:=h
   have e0:=TV.as_some h0;have e1:=TV.as_some h1;have e2:=TV.as_some h2
   subst e0 e1 e2
   rfl
 case l01Gen =>
  match l,h with
  | [a0,a1,a2,a3],h =>
   simp only[a0o.ofCells,Option.bind_eq_some_iff,Option.some.injEq] at h
   obtain⟨b0,h0,⟨b1,h1,⟨b2,h2,⟨b3,h3,rfl⟩⟩⟩⟩:=h
   have e0:=TV.as_some h0;have e1:=TV.as_some h1;have e2:=TV.as_some h2;have e3:=TV.as_some h3
   subst e0 e1 e2 e3
   rfl
 case l06Gen =>
  match l,h with
  | [a0,a1,a2,a3],h =>
   simp only[a0o.ofCells,Option.bind_eq_some_iff,Option.some.injEq] at h
   obtain⟨b0,h0,⟨b1,h1,⟨b2,h2,⟨b3,h3,rfl⟩⟩⟩⟩:=h
   have e0:=TV.as_some h0;have e1:=TV.as_some h1;have e2:=TV.as_some h2;have e3:=TV.as_some h3
   subst e0 e1 e2 e3
   rfl
theorem a0o.cells_length(s:a0o)(x:s.den):(s.cells x).length=s.size:=by cases s<;>rfl
theorem a0o.cells_tys(s:a0o)(x:s.den):(s.cells x).map TV.τ=s.ctys:=by cases s<;>rfl
theorem a0o.fields_tys(s:a0o)(x:s.den):(s.fields x).map TV.τ=s.ftys:=by cases s<;>rfl
def Ty.size:Ty→Nat
 | .st s=>s.size
 | _=>1
def TV.cells(v:TV):List TV :=
 match v with
 | ⟨.st s,x⟩=>s.cells x
 | v=>[v]
theorem a0o.cells_fields(s:a0o)(x:s.den):s.cells x=(s.fields x).flatMap TV.cells:=by cases s<;>rfl
def a0l.toD(x:a0l):D := .agg [.int .i64 x.tests, .int .i64 x.actions]
mutual
def a0b.toD:a0b→D
 | ⟨kind,num,kids⟩ => .agg [.int .i64 kind, .int .i64 num, .slice 3 (a0b.toDs kids)]
def a0b.toDs:List a0b→List D
 | []=>[]
 | e::r=>e.toD::a0b.toDs r
end
theorem a0b.toDs_eq:∀ l,a0b.toDs l=l.map a0b.toD
 | []=>rfl
 | _::r=>congrArg _ (a0b.toDs_eq r)
def b6h.toD(x:b6h):D := .agg [.int .i64 x.kind, .int .i64 x.num,mvD 3 (fun y=>a0b.toD y) x.kids]
mutual
def a0a.toD:a0a→D
 | ⟨kind,num,cond,kids⟩ => .agg [.int .i64 kind, .int .i64 num, .int .i64 cond.kind, .int .i64 cond.num, .slice 3 (cond.kids.map fun y=>a0b.toD y), .slice 6 (a0a.toDs kids)]
def a0a.toDs:List a0a→List D
 | []=>[]
 | e::r=>e.toD::a0a.toDs r
end
theorem a0a.toDs_eq:∀ l,a0a.toDs l=l.map a0a.toD
 | []=>rfl
 | _::r=>congrArg _ (a0a.toDs_eq r)
def b4g.toD(x:b4g):D := .agg [.slice 1 (x.code.map fun y => .int .u8 y), .int .i64 x.pos, .int .u64 x.seed]
def b4h.toD(x:b4h):D := .agg [.ptr, .int .i64 x.g.tests, .int .i64 x.g.actions, .int .i64 x.left]
def b4i.toD(x:b4i):D := .agg [.ptr, .int .i64 x.g.tests, .int .i64 x.g.actions, .int .i64 x.left]
def a0o.toD:(s:a0o)→s.den→D
 | .sig,x=>a0l.toD x
 | .expr,x=>a0b.toD x
 | .oExpr,x=>b6h.toD x
 | .prog,x=>a0a.toD x
 | .l00Src,x=>b4g.toD x
 | .l01Gen,x=>b4h.toD x
 | .l06Gen,x=>b4i.toD x
def Ty.toD:(t:Ty)→t.den→D
 | .int k,n => .int k n
 | .bool,b => .bool b
 | .str,s => .str s
 | .slice t,xs => .slice t.size (xs.map t.toD)
 | .st s,x=>s.toD x
 | .mv t,o=>mvD t.size t.toD o
 | .ptr,_ => .ptr
def TV.toD(v:TV):D:=v.τ.toD v.x
theorem a0o.toD_cells(s:a0o)(x:s.den):s.toD x = .agg ((s.cells x).map TV.toD):=by
 cases s<;>first
  | rfl
  | (cases x;simp[a0o.toD,a0b.toD,a0o.cells,TV.toD,Ty.toD,Ty.size,a0o.size,a0b.toDs_eq];done)
  | (cases x;simp[a0o.toD,a0a.toD,a0o.cells,TV.toD,Ty.toD,Ty.size,a0o.size,a0a.toDs_eq];done)
  | (simp[a0o.toD,a0o.cells,TV.toD,Ty.toD,Ty.size,a0o.size,a0l.toD,a0b.toD,b6h.toD,a0a.toD,b4g.toD,b4h.toD,b4i.toD,a0b.toDs_eq,a0a.toDs_eq];done)
def a0o.zero:(s:a0o)→s.den
 | .sig=>(a0l.mk 0 0)
 | .expr=>(a0b.mk 0 0 [])
 | .oExpr=>(b6h.mk 0 0 none)
 | .prog=>(a0a.mk 0 0 (a0b.mk 0 0 []) [])
 | .l00Src=>(b4g.mk [] 0 0)
 | .l01Gen=>(b4h.mk () (a0l.mk 0 0) 0)
 | .l06Gen=>(b4i.mk () (a0l.mk 0 0) 0)
def Ty.zero:(t:Ty)→t.den
 | .int _=>(0:Int)
 | .bool=>false
 | .str=>([]:List UInt8)
 | .slice _=>[]
 | .st s=>s.zero
 | .mv _=>none
 | .ptr=>()
instance:Inhabited a0l:=⟨a0o.zero .sig⟩
theorem a0l.eta(x:a0l):a0l.mk x.tests x.actions=x:=by cases x;rfl
instance:Inhabited a0b:=⟨a0o.zero .expr⟩
theorem a0b.eta(x:a0b):a0b.mk x.kind x.num x.kids=x:=by cases x;rfl
instance:Inhabited b6h:=⟨a0o.zero .oExpr⟩
theorem b6h.eta(x:b6h):b6h.mk x.kind x.num x.kids=x:=by cases x;rfl
instance:Inhabited a0a:=⟨a0o.zero .prog⟩
theorem a0a.eta(x:a0a):a0a.mk x.kind x.num x.cond x.kids=x:=by cases x;rfl
instance:Inhabited b4g:=⟨a0o.zero .l00Src⟩
theorem b4g.eta(x:b4g):b4g.mk x.code x.pos x.seed=x:=by cases x;rfl
instance:Inhabited b4h:=⟨a0o.zero .l01Gen⟩
theorem b4h.eta(x:b4h):b4h.mk x.s x.g x.left=x:=by cases x;rfl
instance:Inhabited b4i:=⟨a0o.zero .l06Gen⟩
theorem b4i.eta(x:b4i):b4i.mk x.s x.g x.left=x:=by cases x;rfl
def a0w(x:a0b):a0b:=a0b.mk x.kind x.num x.kids
theorem a2b(x:a0b):a0w x=x:=by cases x;simp[a0w]
def a0g(x:a0a):a0a:=a0a.mk x.kind x.num (a0w x.cond) x.kids
theorem a2d(x:a0a):a0g x=x:=by cases x;simp[a0g,a2b]
theorem a0o.fields_ex:∀ (s:a0o) (fl:List TV),fl.map TV.τ=s.ftys→∃ x,s.fields x=fl
 | .sig,fl,h=>by
  match fl,h with
  | [⟨t0,a0⟩,⟨t1,a1⟩],h =>
   simp only[List.map_cons,List.map_nil,a0o.ftys,List.cons.injEq,and_true] at h
   obtain⟨rfl,rfl⟩:=h
   exact⟨⟨a0,a1⟩,rfl⟩
 | .expr,fl,h=>by
  match fl,h with
  | [⟨t0,a0⟩,⟨t1,a1⟩,⟨t2,a2⟩],h =>
   simp only[List.map_cons,List.map_nil,a0o.ftys,List.cons.injEq,and_true] at h
   obtain⟨rfl,rfl,rfl⟩:=h
   exact⟨⟨a0,a1,a2⟩,rfl⟩
 | .oExpr,fl,h=>by
  match fl,h with
  | [⟨t0,a0⟩,⟨t1,a1⟩,⟨t2,a2⟩],h =>
   simp only[List.map_cons,List.map_nil,a0o.ftys,List.cons.injEq,and_true] at h
   obtain⟨rfl,rfl,rfl⟩:=h
   exact⟨⟨a0,a1,a2⟩,rfl⟩
 | .prog,fl,h=>by
  match fl,h with
  | [⟨t0,a0⟩,⟨t1,a1⟩,⟨t2,a2⟩,⟨t3,a3⟩],h =>
   simp only[List.map_cons,List.map_nil,a0o.ftys,List.cons.injEq,and_true] at h
   obtain⟨rfl,rfl,rfl,rfl⟩:=h
   exact⟨⟨a0,a1,a2,a3⟩,rfl⟩
 | .l00Src,fl,h=>by
  match fl,h with
  | [⟨t0,a0⟩,⟨t1,a1⟩,⟨t2,a2⟩],h =>
   simp only[List.map_cons,List.map_nil,a0o.ftys,List.cons.injEq,and_true] at h
   obtain⟨rfl,rfl,rfl⟩:=h
   exact⟨⟨a0,a1,a2⟩,rfl⟩
 | .l01Gen,fl,h=>by
  match fl,h with
  | [⟨t0,a0⟩,⟨t1,a1⟩,⟨t2,a2⟩],h =>
   simp only[List.map_cons,List.map_nil,a0o.ftys,List.cons.injEq,and_true] at h
   obtain⟨rfl,rfl,rfl⟩:=h
   exact⟨⟨a0,a1,a2⟩,rfl⟩
 | .l06Gen,fl,h=>by
  match fl,h with
  | [⟨t0,a0⟩,⟨t1,a1⟩,⟨t2,a2⟩],h =>
   simp only[List.map_cons,List.map_nil,a0o.ftys,List.cons.injEq,and_true] at h
   obtain⟨rfl,rfl,rfl⟩:=h
   exact⟨⟨a0,a1,a2⟩,rfl⟩
abbrev zE:a0b:=a0b.mk (0:Int) (0:Int) []
abbrev zP:a0a:=a0a.mk (0:Int) (0:Int) (a0b.mk (0:Int) (0:Int) []) []
end Go.Proofs.Ytlaoejdeanljgaa

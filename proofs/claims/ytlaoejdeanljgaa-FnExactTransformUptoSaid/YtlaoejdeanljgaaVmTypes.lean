/- The data types of the program as Lean types; tables of their fields and cells. Printed by gen_types.py. -/
import Derived.KernelRfl
import GoSem.Claim
set_option linter.unusedVariables false
set_option linter.unusedSimpArgs false
namespace Go.Proofs.Ytlaoejdeanljgaa
def g9p:List Nat:=[]
inductive D where
 | int (k:IntKind) (n:Int)
 | bool (b:Bool)
 | str (s:List UInt8)
 | slice (n:Nat) (xs:List D)
 | agg (xs:List D)
 | hole
 | ptr
def mvD{α:Type}(n:Nat)(f:α→D):Option (List α)→D
 | none => .hole
 | some l => .slice n (l.map f)
inductive a0q where
 | sig
 | expr
 | oExpr
 | prog
 | l00Src
 | l01Gen
 | l06Gen
 deriving DecidableEq
inductive Ty where
 | int (k:IntKind)
 | bool
 | str
 | slice (t:Ty)
 | st (s:a0q)
 | mv (t:Ty)
 | ptr
 deriving DecidableEq
structure a0v where
 tests:Int
 actions:Int
structure a0c where
 kind:Int
 num:Int
 kids:List (a0c)
structure b7g where
 kind:Int
 num:Int
 kids:Option (List (a0c))
structure a0a where
 kind:Int
 num:Int
 cond:a0c
 kids:List (a0a)
structure b4r where
 code:List (Int)
 pos:Int
 seed:Int
structure b4s where
 s:Unit
 g:a0v
 left:Int
structure b4t where
 s:Unit
 g:a0v
 left:Int
@[reducible] def a0q.den:a0q→Type
 | .sig=>a0v
 | .expr=>a0c
 | .oExpr=>b7g
 | .prog=>a0a
 | .l00Src=>b4r
 | .l01Gen=>b4s
 | .l06Gen=>b4t
@[reducible] def Ty.den:Ty→Type
 | .int _=>Int
 | .bool=>Bool
 | .str=>List UInt8
 | .slice t=>List t.den
 | .st s=>s.den
 | .mv t=>Option (List t.den)
 | .ptr=>Unit
structure TV where
 τ:Ty
 x:τ.den
def TV.as(τ:Ty)(v:TV):Option τ.den:=if h:v.τ=τ then some (h ▸ v.x) else none
theorem TV.as_some{τ:Ty}{v:TV}{x:τ.den}(h:v.as τ=some x):v=⟨τ,x⟩:=by
 unfold TV.as at h
 split at h
 ·rename_i e
  subst e
  cases v
  simp at h
  subst h
  rfl
 ·cases h
@[simp] theorem TV.as_mk(τ:Ty)(x:τ.den):TV.as τ ⟨τ,x⟩=some x:=by simp[TV.as]
def a0q.fields:(s:a0q)→s.den→List TV
 | .sig,x=>[⟨.int .i64,x.tests⟩,⟨.int .i64,x.actions⟩]
 | .expr,x=>[⟨.int .i64,x.kind⟩,⟨.int .i64,x.num⟩,⟨.slice (.st .expr),x.kids⟩]
 | .oExpr,x=>[⟨.int .i64,x.kind⟩,⟨.int .i64,x.num⟩,⟨.mv (.st .expr),x.kids⟩]
 | .prog,x=>[⟨.int .i64,x.kind⟩,⟨.int .i64,x.num⟩,⟨.st .expr,x.cond⟩,⟨.slice (.st .prog),x.kids⟩]
 | .l00Src,x=>[⟨.slice (.int .u8),x.code⟩,⟨.int .i64,x.pos⟩,⟨.int .u64,x.seed⟩]
 | .l01Gen,x=>[⟨.ptr,x.s⟩,⟨.st .sig,x.g⟩,⟨.int .i64,x.left⟩]
 | .l06Gen,x=>[⟨.ptr,x.s⟩,⟨.st .sig,x.g⟩,⟨.int .i64,x.left⟩]
def a0q.cells:(s:a0q)→s.den→List TV
 | .sig,x=>[⟨.int .i64,x.tests⟩,⟨.int .i64,x.actions⟩]
 | .expr,x=>[⟨.int .i64,x.kind⟩,⟨.int .i64,x.num⟩,⟨.slice (.st .expr),x.kids⟩]
 | .oExpr,x=>[⟨.int .i64,x.kind⟩,⟨.int .i64,x.num⟩,⟨.mv (.st .expr),x.kids⟩]
 | .prog,x=>[⟨.int .i64,x.kind⟩,⟨.int .i64,x.num⟩,⟨.int .i64,x.cond.kind⟩,⟨.int .i64,x.cond.num⟩,⟨.slice (.st .expr),x.cond.kids⟩,⟨.slice (.st .prog),x.kids⟩]
 | .l00Src,x=>[⟨.slice (.int .u8),x.code⟩,⟨.int .i64,x.pos⟩,⟨.int .u64,x.seed⟩]
 | .l01Gen,x=>[⟨.ptr,x.s⟩,⟨.int .i64,x.g.tests⟩,⟨.int .i64,x.g.actions⟩,⟨.int .i64,x.left⟩]
 | .l06Gen,x=>[⟨.ptr,x.s⟩,⟨.int .i64,x.g.tests⟩,⟨.int .i64,x.g.actions⟩,⟨.int .i64,x.left⟩]
def a0q.size:a0q→Nat
 | .sig=>2
 | .expr=>3
 | .oExpr=>3
 | .prog=>6
 | .l00Src=>3
 | .l01Gen=>4
 | .l06Gen=>4
def a0q.ctys:a0q→List Ty
 | .sig=>[.int .i64, .int .i64]
 | .expr=>[.int .i64, .int .i64, .slice (.st .expr)]
 | .oExpr=>[.int .i64, .int .i64, .mv (.st .expr)]
 | .prog=>[.int .i64, .int .i64, .int .i64, .int .i64, .slice (.st .expr), .slice (.st .prog)]
 | .l00Src=>[.slice (.int .u8), .int .i64, .int .u64]
 | .l01Gen=>[.ptr, .int .i64, .int .i64, .int .i64]
 | .l06Gen=>[.ptr, .int .i64, .int .i64, .int .i64]
def a0q.ftys:a0q→List Ty
 | .sig=>[.int .i64, .int .i64]
 | .expr=>[.int .i64, .int .i64, .slice (.st .expr)]
 | .oExpr=>[.int .i64, .int .i64, .mv (.st .expr)]
 | .prog=>[.int .i64, .int .i64, .st .expr, .slice (.st .prog)]
 | .l00Src=>[.slice (.int .u8), .int .i64, .int .u64]
 | .l01Gen=>[.ptr, .st .sig, .int .i64]
 | .l06Gen=>[.ptr, .st .sig, .int .i64]
def a0q.ofCells:(s:a0q)→List TV→Option s.den
 | .sig,[a0,a1]=>(a0.as (.int .i64)).bind fun b0=>(a1.as (.int .i64)).bind fun b1=>some (a0v.mk b0 b1)
 | .expr,[a0,a1,a2]=>(a0.as (.int .i64)).bind fun b0=>(a1.as (.int .i64)).bind fun b1=>(a2.as (.slice (.st .expr))).bind fun b2=>some (a0c.mk b0 b1 b2)
 | .oExpr,[a0,a1,a2]=>(a0.as (.int .i64)).bind fun b0=>(a1.as (.int .i64)).bind fun b1=>(a2.as (.mv (.st .expr))).bind fun b2=>some (b7g.mk b0 b1 b2)
 | .prog,[a0,a1,a2,a3,a4,a5]=>(a0.as (.int .i64)).bind fun b0=>(a1.as (.int .i64)).bind fun b1=>(a2.as (.int .i64)).bind fun b2=>(a3.as (.int .i64)).bind fun b3=>(a4.as (.slice (.st .expr))).bind fun b4=>(a5.as (.slice (.st .prog))).bind fun b5=>some (a0a.mk b0 b1 (a0c.mk b2 b3 b4) b5)
 | .l00Src,[a0,a1,a2]=>(a0.as (.slice (.int .u8))).bind fun b0=>(a1.as (.int .i64)).bind fun b1=>(a2.as (.int .u64)).bind fun b2=>some (b4r.mk b0 b1 b2)
 | .l01Gen,[a0,a1,a2,a3]=>(a0.as (.ptr)).bind fun b0=>(a1.as (.int .i64)).bind fun b1=>(a2.as (.int .i64)).bind fun b2=>(a3.as (.int .i64)).bind fun b3=>some (b4s.mk b0 (a0v.mk b1 b2) b3)
 | .l06Gen,[a0,a1,a2,a3]=>(a0.as (.ptr)).bind fun b0=>(a1.as (.int .i64)).bind fun b1=>(a2.as (.int .i64)).bind fun b2=>(a3.as (.int .i64)).bind fun b3=>some (b4t.mk b0 (a0v.mk b1 b2) b3)
 | _,_=>none
theorem a0q.ofCells_some:∀ {s:a0q} {l:List TV} {x:s.den},s.ofCells l=some x→s.cells x=l:=by
 intro s l x h
 cases s
 case sig =>
  match l,h with
  | [a0,a1],h =>
   simp only[a0q.ofCells,Option.bind_eq_some_iff,Option.some.injEq] at h
   obtain⟨b0,h0,⟨b1,h1,rfl⟩⟩:=h
   have e0:=TV.as_some h0;have e1:=TV.as_some h1
   subst e0 e1
   rfl
 case expr =>
  match l,h with
  | [a0,a1,a2],h =>
   simp only[a0q.ofCells,Option.bind_eq_some_iff,Option.some.injEq] at h
   obtain⟨b0,h0,⟨b1,h1,⟨b2,h2,rfl⟩⟩⟩:=h
   have e0:=TV.as_some h0;have e1:=TV.as_some h1;have e2:=TV.as_some h2
   subst e0 e1 e2
   rfl
 case oExpr =>
  match l,h with
  | [a0,a1,a2],h =>
   simp only[a0q.ofCells,Option.bind_eq_some_iff,Option.some.injEq] at h
   obtain⟨b0,h0,⟨b1,h1,⟨b2,h2,rfl⟩⟩⟩:=h
   have e0:=TV.as_some h0;have e1:=TV.as_some h1;have e2:=TV.as_some h2
   subst e0 e1 e2
   rfl
 case prog =>
  match l,h with
  | [a0,a1,a2,a3,a4,a5],h =>
   simp only[a0q.ofCells,Option.bind_eq_some_iff,Option.some.injEq] at h
   obtain⟨b0,h0,⟨b1,h1,⟨b2,h2,⟨b3,h3,⟨b4,h4,⟨b5,h5,rfl⟩⟩⟩⟩⟩⟩:=h
   have e0:=TV.as_some h0;have e1:=TV.as_some h1;have e2:=TV.as_some h2;have e3:=TV.as_some h3;have e4:=TV.as_some h4;have e5:=TV.as_some h5
   subst e0 e1 e2 e3 e4 e5
   rfl
 case l00Src =>
  match l,h with
  | [a0,a1,a2],h =>
   simp only[a0q.ofCells,Option.bind_eq_some_iff,Option.some.injEq] at h
   obtain⟨b0,h0,⟨b1,h1,⟨b2,h2,rfl⟩⟩⟩:=h
   have e0:=TV.as_some h0;have e1:=TV.as_some h1;have e2:=TV.as_some h2
   subst e0 e1 e2
   rfl
 case l01Gen =>
  match l,h with
  | [a0,a1,a2,a3],h =>
   simp only[a0q.ofCells,Option.bind_eq_some_iff,Option.some.injEq] at h
   obtain⟨b0,h0,⟨b1,h1,⟨b2,h2,⟨b3,h3,rfl⟩⟩⟩⟩:=h
   have e0:=TV.as_some h0;have e1:=TV.as_some h1;have e2:=TV.as_some h2;have e3:=TV.as_some h3
   subst e0 e1 e2 e3
   rfl
 case l06Gen =>
  match l,h with
  | [a0,a1,a2,a3],h =>
   simp only[a0q.ofCells,Option.bind_eq_some_iff,Option.some.injEq] at h
   obtain⟨b0,h0,⟨b1,h1,⟨b2,h2,⟨b3,h3,rfl⟩⟩⟩⟩:=h
   have e0:=TV.as_some h0;have e1:=TV.as_some h1;have e2:=TV.as_some h2;have e3:=TV.as_some h3
   subst e0 e1 e2 e3
   rfl
theorem a0q.cells_length(s:a0q)(x:s.den):(s.cells x).length=s.size:=by cases s<;>rfl
theorem a0q.cells_tys(s:a0q)(x:s.den):(s.cells x).map TV.τ=s.ctys:=by cases s<;>rfl
theorem a0q.fields_tys(s:a0q)(x:s.den):(s.fields x).map TV.τ=s.ftys:=by cases s<;>rfl
def Ty.size:Ty→Nat
 | .st s=>s.size
 | _=>1
def TV.cells(v:TV):List TV :=
 match v with
 | ⟨.st s,x⟩=>s.cells x
 | v=>[v]
theorem a0q.cells_fields(s:a0q)(x:s.den):s.cells x=(s.fields x).flatMap TV.cells:=by cases s<;>rfl
def a0v.toD(x:a0v):D := .agg [.int .i64 x.tests, .int .i64 x.actions]
mutual
def a0c.toD:a0c→D
 | ⟨kind,num,kids⟩ => .agg [.int .i64 kind, .int .i64 num, .slice 3 (a0c.toDs kids)]
def a0c.toDs:List a0c→List D
 | []=>[]
 | e::r=>e.toD::a0c.toDs r
end
theorem a0c.toDs_eq:∀ l,a0c.toDs l=l.map a0c.toD
 | []=>rfl
 | _::r=>congrArg _ (a0c.toDs_eq r)
def b7g.toD(x:b7g):D := .agg [.int .i64 x.kind, .int .i64 x.num,mvD 3 (fun y=>a0c.toD y) x.kids]
mutual
def a0a.toD:a0a→D
 | ⟨kind,num,cond,kids⟩ => .agg [.int .i64 kind, .int .i64 num, .int .i64 cond.kind, .int .i64 cond.num, .slice 3 (cond.kids.map fun y=>a0c.toD y), .slice 6 (a0a.toDs kids)]
def a0a.toDs:List a0a→List D
 | []=>[]
 | e::r=>e.toD::a0a.toDs r
end
theorem a0a.toDs_eq:∀ l,a0a.toDs l=l.map a0a.toD
 | []=>rfl
 | _::r=>congrArg _ (a0a.toDs_eq r)
def b4r.toD(x:b4r):D := .agg [.slice 1 (x.code.map fun y => .int .u8 y), .int .i64 x.pos, .int .u64 x.seed]
def b4s.toD(x:b4s):D := .agg [.ptr, .int .i64 x.g.tests, .int .i64 x.g.actions, .int .i64 x.left]
def b4t.toD(x:b4t):D := .agg [.ptr, .int .i64 x.g.tests, .int .i64 x.g.actions, .int .i64 x.left]
def a0q.toD:(s:a0q)→s.den→D
 | .sig,x=>a0v.toD x
 | .expr,x=>a0c.toD x
 | .oExpr,x=>b7g.toD x
 | .prog,x=>a0a.toD x
 | .l00Src,x=>b4r.toD x
 | .l01Gen,x=>b4s.toD x
 | .l06Gen,x=>b4t.toD x
def Ty.toD:(t:Ty)→t.den→D
 | .int k,n => .int k n
 | .bool,b => .bool b
 | .str,s => .str s
 | .slice t,xs => .slice t.size (xs.map t.toD)
 | .st s,x=>s.toD x
 | .mv t,o=>mvD t.size t.toD o
 | .ptr,_ => .ptr
def TV.toD(v:TV):D:=v.τ.toD v.x
theorem a0q.toD_cells(s:a0q)(x:s.den):s.toD x = .agg ((s.cells x).map TV.toD):=by
 cases s<;>first
  | rfl
  | (cases x;simp[a0q.toD,a0c.toD,a0q.cells,TV.toD,Ty.toD,Ty.size,a0q.size,a0c.toDs_eq];done)
  | (cases x;simp[a0q.toD,a0a.toD,a0q.cells,TV.toD,Ty.toD,Ty.size,a0q.size,a0a.toDs_eq];done)
  | (simp[a0q.toD,a0q.cells,TV.toD,Ty.toD,Ty.size,a0q.size,a0v.toD,a0c.toD,b7g.toD,a0a.toD,b4r.toD,b4s.toD,b4t.toD,a0c.toDs_eq,a0a.toDs_eq];done)
def a0q.zero:(s:a0q)→s.den
 | .sig=>(a0v.mk 0 0)
 | .expr=>(a0c.mk 0 0 [])
 | .oExpr=>(b7g.mk 0 0 none)
 | .prog=>(a0a.mk 0 0 (a0c.mk 0 0 []) [])
 | .l00Src=>(b4r.mk [] 0 0)
 | .l01Gen=>(b4s.mk () (a0v.mk 0 0) 0)
 | .l06Gen=>(b4t.mk () (a0v.mk 0 0) 0)
def Ty.zero:(t:Ty)→t.den
 | .int _=>(0:Int)
 | .bool=>false
 | .str=>([]:List UInt8)
 | .slice _=>[]
 | .st s=>s.zero
 | .mv _=>none
 | .ptr=>()
instance:Inhabited a0v:=⟨a0q.zero .sig⟩
theorem a0v.eta(x:a0v):a0v.mk x.tests x.actions=x:=by cases x;rfl
instance:Inhabited a0c:=⟨a0q.zero .expr⟩
theorem a0c.eta(x:a0c):a0c.mk x.kind x.num x.kids=x:=by cases x;rfl
instance:Inhabited b7g:=⟨a0q.zero .oExpr⟩
theorem b7g.eta(x:b7g):b7g.mk x.kind x.num x.kids=x:=by cases x;rfl
instance:Inhabited a0a:=⟨a0q.zero .prog⟩
theorem a0a.eta(x:a0a):a0a.mk x.kind x.num x.cond x.kids=x:=by cases x;rfl
instance:Inhabited b4r:=⟨a0q.zero .l00Src⟩
theorem b4r.eta(x:b4r):b4r.mk x.code x.pos x.seed=x:=by cases x;rfl
instance:Inhabited b4s:=⟨a0q.zero .l01Gen⟩
theorem b4s.eta(x:b4s):b4s.mk x.s x.g x.left=x:=by cases x;rfl
instance:Inhabited b4t:=⟨a0q.zero .l06Gen⟩
theorem b4t.eta(x:b4t):b4t.mk x.s x.g x.left=x:=by cases x;rfl
def a1g(x:a0c):a0c:=a0c.mk x.kind x.num x.kids
theorem a1y(x:a0c):a1g x=x:=by cases x;simp[a1g]
def a0b(x:a0a):a0a:=a0a.mk x.kind x.num (a1g x.cond) x.kids
theorem a2a(x:a0a):a0b x=x:=by cases x;simp[a0b,a1y]
theorem a0q.fields_ex:∀ (s:a0q) (fl:List TV),fl.map TV.τ=s.ftys→∃ x,s.fields x=fl
 | .sig,fl,h=>by
  match fl,h with
  | [⟨t0,a0⟩,⟨t1,a1⟩],h =>
   simp only[List.map_cons,List.map_nil,a0q.ftys,List.cons.injEq,and_true] at h
   obtain⟨rfl,rfl⟩:=h
   exact⟨⟨a0,a1⟩,rfl⟩
 | .expr,fl,h=>by
  match fl,h with
  | [⟨t0,a0⟩,⟨t1,a1⟩,⟨t2,a2⟩],h =>
   simp only[List.map_cons,List.map_nil,a0q.ftys,List.cons.injEq,and_true] at h
   obtain⟨rfl,rfl,rfl⟩:=h
   exact⟨⟨a0,a1,a2⟩,rfl⟩
 | .oExpr,fl,h=>by
  match fl,h with
  | [⟨t0,a0⟩,⟨t1,a1⟩,⟨t2,a2⟩],h =>
   simp only[List.map_cons,List.map_nil,a0q.ftys,List.cons.injEq,and_true] at h
   obtain⟨rfl,rfl,rfl⟩:=h
   exact⟨⟨a0,a1,a2⟩,rfl⟩
 | .prog,fl,h=>by
  match fl,h with
  | [⟨t0,a0⟩,⟨t1,a1⟩,⟨t2,a2⟩,⟨t3,a3⟩],h =>
   simp only[List.map_cons,List.map_nil,a0q.ftys,List.cons.injEq,and_true] at h
   obtain⟨rfl,rfl,rfl,rfl⟩:=h
   exact⟨⟨a0,a1,a2,a3⟩,rfl⟩
 | .l00Src,fl,h=>by
  match fl,h with
  | [⟨t0,a0⟩,⟨t1,a1⟩,⟨t2,a2⟩],h =>
   simp only[List.map_cons,List.map_nil,a0q.ftys,List.cons.injEq,and_true] at h
   obtain⟨rfl,rfl,rfl⟩:=h
   exact⟨⟨a0,a1,a2⟩,rfl⟩
 | .l01Gen,fl,h=>by
  match fl,h with
  | [⟨t0,a0⟩,⟨t1,a1⟩,⟨t2,a2⟩],h =>
   simp only[List.map_cons,List.map_nil,a0q.ftys,List.cons.injEq,and_true] at h
   obtain⟨rfl,rfl,rfl⟩:=h
   exact⟨⟨a0,a1,a2⟩,rfl⟩
 | .l06Gen,fl,h=>by
  match fl,h with
  | [⟨t0,a0⟩,⟨t1,a1⟩,⟨t2,a2⟩],h =>
   simp only[List.map_cons,List.map_nil,a0q.ftys,List.cons.injEq,and_true] at h
   obtain⟨rfl,rfl,rfl⟩:=h
   exact⟨⟨a0,a1,a2⟩,rfl⟩
abbrev zE:a0c:=a0c.mk (0:Int) (0:Int) []
abbrev zP:a0a:=a0a.mk (0:Int) (0:Int) (a0c.mk (0:Int) (0:Int) []) []
end Go.Proofs.Ytlaoejdeanljgaa

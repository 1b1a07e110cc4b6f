/- The data types of the program as Lean types; tables of their fields and cells. Printed by gen_types.py. -/
import Derived.KernelRfl
import GoSem.Claim
set_option linter.unusedVariables false
set_option linter.unusedSimpArgs false
namespace Go.Proofs.YthebhlkdppmefaaGreat
def i3m:List Nat:=[]
inductive D where
 | int (k:IntKind) (n:Int)
 | bool (b:Bool)
 | str (s:List UInt8)
 | slice (n:Nat) (xs:List D)
 | agg (xs:List D)
 | hole
 | ptr
def mvD{α:Type}(n:Nat)(f:α→D):Option (List α)→D
 | none => .hole
 | some l => .slice n (l.map f)
inductive a0u where
 | sig
 | expr
 | oExpr
 | prog
 | triple
 | premise
 | l00Src
 | l01Gen
 | l06Gen
 deriving DecidableEq
inductive Ty where
 | int (k:IntKind)
 | bool
 | str
 | slice (t:Ty)
 | st (s:a0u)
 | mv (t:Ty)
 | ptr
 deriving DecidableEq
structure a0h where
 tests:Int
 actions:Int
structure a0b where
 kind:Int
 num:Int
 kids:List (a0b)
structure a3u where
 kind:Int
 num:Int
 kids:Option (List (a0b))
structure a0d where
 kind:Int
 num:Int
 cond:a0b
 kids:List (a0d)
structure a1g where
 pre:a0b
 prog:a0d
 post:a0b
structure a0e where
 pre:a0b
 act:Int
 post:a0b
structure b7c where
 code:List (Int)
 pos:Int
 seed:Int
structure b7d where
 s:Unit
 g:a0h
 left:Int
structure b7e where
 s:Unit
 g:a0h
 left:Int
@[reducible] def a0u.den:a0u→Type
 | .sig=>a0h
 | .expr=>a0b
 | .oExpr=>a3u
 | .prog=>a0d
 | .triple=>a1g
 | .premise=>a0e
 | .l00Src=>b7c
 | .l01Gen=>b7d
 | .l06Gen=>b7e
@[reducible] def Ty.den:Ty→Type
 | .int _=>Int
 | .bool=>Bool
 | .str=>List UInt8
 | .slice t=>List t.den
 | .st s=>s.den
 | .mv t=>Option (List t.den)
 | .ptr=>Unit
structure TV where
 τ:Ty
 x:τ.den
def TV.as(τ:Ty)(v:TV):Option τ.den:=if h:v.τ=τ then some (h ▸ v.x) else none
theorem TV.as_some{τ:Ty}{v:TV}{x:τ.den}(h:v.as τ=some x):v=⟨τ,x⟩:=by
 unfold TV.as at h
 split at h
 ·rename_i e
  subst e
  cases v
  simp at h
  subst h
  rfl
 ·cases h
@[simp] theorem TV.as_mk(τ:Ty)(x:τ.den):TV.as τ ⟨τ,x⟩=some x:=by simp[TV.as]
def a0u.fields:(s:a0u)→s.den→List TV
 | .sig,x=>[⟨.int .i64,x.tests⟩,⟨.int .i64,x.actions⟩]
 | .expr,x=>[⟨.int .i64,x.kind⟩,⟨.int .i64,x.num⟩,⟨.slice (.st .expr),x.kids⟩]
 | .oExpr,x=>[⟨.int .i64,x.kind⟩,⟨.int .i64,x.num⟩,⟨.mv (.st .expr),x.kids⟩]
 | .prog,x=>[⟨.int .i64,x.kind⟩,⟨.int .i64,x.num⟩,⟨.st .expr,x.cond⟩,⟨.slice (.st .prog),x.kids⟩]
 | .triple,x=>[⟨.st .expr,x.pre⟩,⟨.st .prog,x.prog⟩,⟨.st .expr,x.post⟩]
 | .premise,x=>[⟨.st .expr,x.pre⟩,⟨.int .i64,x.act⟩,⟨.st .expr,x.post⟩]
 | .l00Src,x=>[⟨.slice (.int .u8),x.code⟩,⟨.int .i64,x.pos⟩,⟨.int .u64,x.seed⟩]
 | .l01Gen,x=>[⟨.ptr,x.s⟩,⟨.st .sig,x.g⟩,⟨.int .i64,x.left⟩]
 | .l06Gen,x=>[⟨.ptr,x.s⟩,⟨.st .sig,x.g⟩,⟨.int .i64,x.left⟩]
def a0u.cells:(s:a0u)→s.den→List TV
 | .sig,x=>[⟨.int .i64,x.tests⟩,⟨.int .i64,x.actions⟩]
 | .expr,x=>[⟨.int .i64,x.kind⟩,⟨.int .i64,x.num⟩,⟨.slice (.st .expr),x.kids⟩]
 | .oExpr,x=>[⟨.int .i64,x.kind⟩,⟨.int .i64,x.num⟩,⟨.mv (.st .expr),x.kids⟩]
 | .prog,x=>[⟨.int .i64,x.kind⟩,⟨.int .i64,x.num⟩,⟨.int .i64,x.cond.kind⟩,⟨.int .i64,x.cond.num⟩,⟨.slice (.st .expr),x.cond.kids⟩,⟨.slice (.st .prog),x.kids⟩]
 | .triple,x=>[⟨.int .i64,x.pre.kind⟩,⟨.int .i64,x.pre.num⟩,⟨.slice (.st .expr),x.pre.kids⟩,⟨.int .i64,x.prog.kind⟩,⟨.int .i64,x.prog.num⟩,⟨.int .i64,x.prog.cond.kind⟩,⟨.int .i64,x.prog.cond.num⟩,⟨.slice (.st .expr),x.prog.cond.kids⟩,⟨.slice (.st .prog),x.prog.kids⟩,⟨.int .i64,x.post.kind⟩,⟨.int .i64,x.post.num⟩,⟨.slice (.st .expr),x.post.kids⟩]
 | .premise,x=>[⟨.int .i64,x.pre.kind⟩,⟨.int .i64,x.pre.num⟩,⟨.slice (.st .expr),x.pre.kids⟩,⟨.int .i64,x.act⟩,⟨.int .i64,x.post.kind⟩,⟨.int .i64,x.post.num⟩,⟨.slice (.st .expr),x.post.kids⟩]
 | .l00Src,x=>[⟨.slice (.int .u8),x.code⟩,⟨.int .i64,x.pos⟩,⟨.int .u64,x.seed⟩]
 | .l01Gen,x=>[⟨.ptr,x.s⟩,⟨.int .i64,x.g.tests⟩,⟨.int .i64,x.g.actions⟩,⟨.int .i64,x.left⟩]
 | .l06Gen,x=>[⟨.ptr,x.s⟩,⟨.int .i64,x.g.tests⟩,⟨.int .i64,x.g.actions⟩,⟨.int .i64,x.left⟩]
def a0u.size:a0u→Nat
 | .sig=>2
 | .expr=>3
 | .oExpr=>3
 | .prog=>6
 | .triple=>12
 | .premise=>7
 | .l00Src=>3
 | .l01Gen=>4
 | .l06Gen=>4
def a0u.ctys:a0u→List Ty
 | .sig=>[.int .i64, .int .i64]
 | .expr=>[.int .i64, .int .i64, .slice (.st .expr)]
 | .oExpr=>[.int .i64, .int .i64, .mv (.st .expr)]
 | .prog=>[.int .i64, .int .i64, .int .i64, .int .i64, .slice (.st .expr), .slice (.st .prog)]
 | .triple=>[.int .i64, .int .i64, .slice (.st .expr), .int .i64, .int .i64, .int .i64, .int .i64, .slice (.st .expr), .slice (.st .prog), .int .i64, .int .i64, .slice (.st .expr)]
 | .premise=>[.int .i64, .int .i64, .slice (.st .expr), .int .i64, .int .i64, .int .i64, .slice (.st .expr)]
 | .l00Src=>[.slice (.int .u8), .int .i64, .int .u64]
 | .l01Gen=>[.ptr, .int .i64, .int .i64, .int .i64]
 | .l06Gen=>[.ptr, .int .i64, .int .i64, .int .i64]
def a0u.ftys:a0u→List Ty
 | .sig=>[.int .i64, .int .i64]
 | .expr=>[.int .i64, .int .i64, .slice (.st .expr)]
 | .oExpr=>[.int .i64, .int .i64, .mv (.st .expr)]
 | .prog=>[.int .i64, .int .i64, .st .expr, .slice (.st .prog)]
 | .triple=>[.st .expr, .st .prog, .st .expr]
 | .premise=>[.st .expr, .int .i64, .st .expr]
 | .l00Src=>[.slice (.int .u8), .int .i64, .int .u64]
 | .l01Gen=>[.ptr, .st .sig, .int .i64]
 | .l06Gen=>[.ptr, .st .sig, .int .i64]
def a0u.ofCells:(s:a0u)→List TV→Option s.den
 | .sig,[a0,a1]=>(a0.as (.int .i64)).bind fun b0=>(a1.as (.int .i64)).bind fun b1=>some (a0h.mk b0 b1)
 | .expr,[a0,a1,a2]=>(a0.as (.int .i64)).bind fun b0=>(a1.as (.int .i64)).bind fun b1=>(a2.as (.slice (.st .expr))).bind fun b2=>some (a0b.mk b0 b1 b2)
 | .oExpr,[a0,a1,a2]=>(a0.as (.int .i64)).bind fun b0=>(a1.as (.int .i64)).bind fun b1=>(a2.as (.mv (.st .expr))).bind fun b2=>some (a3u.mk b0 b1 b2)
 | .prog,[a0,a1,a2,a3,a4,a5]=>(a0.as (.int .i64)).bind fun b0=>(a1.as (.int .i64)).bind fun b1=>(a2.as (.int .i64)).bind fun b2=>(a3.as (.int .i64)).bind fun b3=>(a4.as (.slice (.st .expr))).bind fun b4=>(a5.as (.slice (.st .prog))).bind fun b5=>some (a0d.mk b0 b1 (a0b.mk b2 b3 b4) b5)
 | .triple,[a0,a1,a2,a3,a4,a5,a6,a7,a8,a9,a10,a11]=>(a0.as (.int .i64)).bind fun b0=>(a1.as (.int .i64)).bind fun b1=>(a2.as (.slice (.st .expr))).bind fun b2=>(a3.as (.int .i64)).bind fun b3=>(a4.as (.int .i64)).bind fun b4=>(a5.as (.int .i64)).bind fun b5=>(a6.as (.int .i64)).bind fun b6=>(a7.as (.slice (.st .expr))).bind fun b7=>(a8.as (.slice (.st .prog))).bind fun b8=>(a9.as (.int .i64)).bind fun b9=>(a10.as (.int .i64)).bind fun b10=>(a11.as (.slice (.st .expr))).bind fun b11=>some (a1g.mk (a0b.mk b0 b1 b2) (a0d.mk b3 b4 (a0b.mk b5 b6 b7) b8) (a0b.mk b9 b10 b11))
 | .premise,[a0,a1,a2,a3,a4,a5,a6]=>(a0.as (.int .i64)).bind fun b0=>(a1.as (.int .i64)).bind fun b1=>(a2.as (.slice (.st .expr))).bind fun b2=>(a3.as (.int .i64)).bind fun b3=>(a4.as (.int .i64)).bind fun b4=>(a5.as (.int .i64)).bind fun b5=>(a6.as (.slice (.st .expr))).bind fun b6=>some (a0e.mk (a0b.mk b0 b1 b2) b3 (a0b.mk b4 b5 b6))
 | .l00Src,[a0,a1,a2]=>(a0.as (.slice (.int .u8))).bind fun b0=>(a1.as (.int .i64)).bind fun b1=>(a2.as (.int .u64)).bind fun b2=>some (b7c.mk b0 b1 b2)
 | .l01Gen,[a0,a1,a2,a3]=>(a0.as (.ptr)).bind fun b0=>(a1.as (.int .i64)).bind fun b1=>(a2.as (.int .i64)).bind fun b2=>(a3.as (.int .i64)).bind fun b3=>some (b7d.mk b0 (a0h.mk b1 b2) b3)
 | .l06Gen,[a0,a1,a2,a3]=>(a0.as (.ptr)).bind fun b0=>(a1.as (.int .i64)).bind fun b1=>(a2.as (.int .i64)).bind fun b2=>(a3.as (.int .i64)).bind fun b3=>some (b7e.mk b0 (a0h.mk b1 b2) b3)
 | _,_=>none
theorem a0u.ofCells_some:∀ {s:a0u} {l:List TV} {x:s.den},s.ofCells l=some x→s.cells x=l:=by
 intro s l x h
 cases s
 case sig =>
  match l,h with
  | [a0,a1],h =>
   simp only[a0u.ofCells,Option.bind_eq_some_iff,Option.some.injEq] at h
   obtain⟨b0,h0,⟨b1,h1,rfl⟩⟩:=h
   have e0:=TV.as_some h0;have e1:=TV.as_some h1
   subst e0 e1
   rfl
 case expr =>
  match l,h with
  | [a0,a1,a2],h =>
   simp only[a0u.ofCells,Option.bind_eq_some_iff,Option.some.injEq] at h
   obtain⟨b0,h0,⟨b1,h1,⟨b2,h2,rfl⟩⟩⟩:=h
   have e0:=TV.as_some h0;have e1:=TV.as_some h1;have e2:=TV.as_some h2
   subst e0 e1 e2
   rfl
 case oExpr =>
  match l,h with
  | [a0,a1,a2],h =>
   simp only[a0u.ofCells,Option.bind_eq_some_iff,Option.some.injEq] at h
   obtain⟨b0,h0,⟨b1,h1,⟨b2,h2,rfl⟩⟩⟩:=h
   have e0:=TV.as_some h0;have e1:=TV.as_some h1;have e2:=TV.as_some h2
   subst e0 e1 e2
   rfl
 case prog =>
  match l,h with
  | [a0,a1,a2,a3,a4,a5],h =>
   simp only[a0u.ofCells,Option.bind_eq_some_iff,Option.some.injEq] at h
   obtain⟨b0,h0,⟨b1,h1,⟨b2,h2,⟨b3,h3,⟨b4,h4,⟨b5,h5,rfl⟩⟩⟩⟩⟩⟩:=h
   have e0:=TV.as_some h0;have e1:=TV.as_some h1;have e2:=TV.as_some h2;have e3:=TV.as_some h3;have e4:=TV.as_some h4;have e5:=TV.as_some h5
   subst e0 e1 e2 e3 e4 e5
   rfl
 case triple =>
  match l,h with
  | [a0,a1,a2,a3,a4,a5,a6,a7,a8,a9,a10,a11],h =>
   simp only[a0u.ofCells,Option.bind_eq_some_iff,Option.some.injEq] at h
   obtain⟨b0,h0,⟨b1,h1,⟨b2,h2,⟨b3,h3,⟨b4,h4,⟨b5,h5,⟨b6,h6,⟨b7,h7,⟨b8,h8,⟨b9,h9,⟨b10,h10,⟨b11,h11,rfl⟩⟩⟩⟩⟩⟩⟩⟩⟩⟩⟩⟩:=h
   have e0:=TV.as_some h0;have e1:=TV.as_some h1;have e2:=TV.as_some h2;have e3:=TV.as_some h3;have e4:=TV.as_some h4;have e5:=TV.as_some h5;have e6:=TV.as_some h6;have e7:=TV.as_some h7;have e8:=TV.as_some h8;have e9:=TV.as_some h9;have e10:=TV.as_some h10;have e11:=TV.as_some h11
   subst e0 e1 e2 e3 e4 e5 e6 e7 e8 e9 e10 e11
   rfl
 case premise =>
  match l,h with
  | [a0,a1,a2,a3,a4,a5,a6],h =>
   simp only[a0u.ofCells,Option.bind_eq_some_iff,Option.some.injEq] at h
   obtain⟨b0,h0,⟨b1,h1,⟨b2,h2,⟨b3,h3,⟨b4,h4,⟨b5,h5,⟨b6,h6,rfl⟩⟩⟩⟩⟩⟩⟩:=h
   have e0:=TV.as_some h0;have e1:=TV.as_some h1;have e2:=TV.as_some h2;have e3:=TV.as_some h3;have e4:=TV.as_some h4;have e5:=TV.as_some h5;have e6:=TV.as_some h6
   subst e0 e1 e2 e3 e4 e5 e6
   rfl
 case l00Src =>
  match l,h with
  | [a0,a1,a2],h =>
   simp only[a0u.ofCells,Option.bind_eq_some_iff,Option.some.injEq] at h
   obtain⟨b0,h0,⟨b1,h1,⟨b2,h2,rfl⟩⟩⟩:=h
   have e0:=TV.as_some h0;have e1:=TV.as_some h1;have e2:=TV.as_some h2
   subst e0 e1 e2
   rfl
 case l01Gen =>
  match l,h with
  | [a0,a1,a2,a3],h =>
   simp only[a0u.ofCells,Option.bind_eq_some_iff,Option.some.injEq] at h
   obtain⟨b0,h0,⟨b1,h1,⟨b2,h2,⟨b3,h3,rfl⟩⟩⟩⟩:=h
   have e0:=TV.as_some h0;have e1:=TV.as_some h1;have e2:=TV.as_some h2;have e3:=TV.as_some h3
   subst e0 e1 e2 e3
   rfl
 case l06Gen =>
  match l,h with
  | [a0,a1,a2,a3],h =>
   simp only[a0u.ofCells,Option.bind_eq_some_iff,Option.some.injEq] at h
   obtain⟨b0,h0,⟨b1,h1,⟨b2,h2,⟨b3,h3,rfl⟩⟩⟩⟩:=h
   have e0:=TV.as_some h0;have e1:=TV.as_some h1;have e2:=TV.as_some h2;have e3:=TV.as_some h3
   subst e0 e1 e2 e3
   rfl
theorem a0u.cells_length(s:a0u)(x:s.den):(s.cells x).length=s.size:=by cases s<;>rfl
theorem a0u.cells_tys(s:a0u)(x:s.den):(s.cells x).map TV.τ=s.ctys:=by cases s<;>rfl
theorem a0u.fields_tys(s:a0u)(x:s.den):(s.fields x).map TV.τ=s.ftys:=by cases s<;>rfl
def Ty.size:Ty→Nat
 | .st s=>s.size
 | _=>1
def TV.cells(v:TV):List TV :=
 match v with
 | ⟨.st s,x⟩=>s.cells x
 | v=>[v]
theorem a0u.cells_fields(s:a0u)(x:s.den):s.cells x=(s.fields x).flatMap TV.cells:=by cases s<;>rfl
def a0h.toD(x:a0h):D := .agg [.int .i64 x.tests, .int .i64 x.actions]
mutual
def a0b.toD:a0b→D
 | ⟨kind,num,kids⟩ => .agg [.int .i64 kind, .int .i64 num, .slice 3 (a0b.toDs kids)]
def a0b.toDs:List a0b→List D
 | []=>[]
 | e::r=>e.toD::a0b.toDs r
end
theorem a0b.toDs_eq:∀ l,a0b.toDs l=l.map a0b.toD
 | []=>rfl
 | _::r=>congrArg _ (a0b.toDs_eq r)
def a3u.toD(x:a3u):D := .agg [.int .i64 x.kind, .int .i64 x.num,mvD 3 (fun y=>a0b.toD y) x.kids]
mutual
def a0d.toD:a0d→D
 | ⟨kind,num,cond,kids⟩ => .agg [.int .i64 kind, .int .i64 num, .int .i64 cond.kind, .int .i64 cond.num, .slice 3 (cond.kids.map fun y=>a0b.toD y), .slice 6 (a0d.toDs kids)]
def a0d.toDs:List a0d→List D
 | []=>[]
 | e::r=>e.toD::a0d.toDs r
end
theorem a0d.toDs_eq:∀ l,a0d.toDs l=l.map a0d.toD
 | []=>rfl
 | _::r=>congrArg _ (a0d.toDs_eq r)
def a1g.toD(x:a1g):D := .agg [.int .i64 x.pre.kind, .int .i64 x.pre.num, .slice 3 (x.pre.kids.map fun y=>a0b.toD y), .int .i64 x.prog.kind, .int .i64 x.prog.num, .int .i64 x.prog.cond.kind, .int .i64 x.prog.cond.num, .slice 3 (x.prog.cond.kids.map fun y=>a0b.toD y), .slice 6 (x.prog.kids.map fun y=>a0d.toD y), .int .i64 x.post.kind, .int .i64 x.post.num, .slice 3 (x.post.kids.map fun y=>a0b.toD y)]
def a0e.toD(x:a0e):D := .agg [.int .i64 x.pre.kind, .int .i64 x.pre.num, .slice 3 (x.pre.kids.map fun y=>a0b.toD y), .int .i64 x.act, .int .i64 x.post.kind, .int .i64 x.post.num, .slice 3 (x.post.kids.map fun y=>a0b.toD y)]
def b7c.toD(x:b7c):D := .agg [.slice 1 (x.code.map fun y => .int .u8 y), .int .i64 x.pos, .int .u64 x.seed]
def b7d.toD(x:b7d):D := .agg [.ptr, .int .i64 x.g.tests, .int .i64 x.g.actions, .int .i64 x.left]
def b7e.toD(x:b7e):D := .agg [.ptr, .int .i64 x.g.tests, .int .i64 x.g.actions, .int .i64 x.left]
def a0u.toD:(s:a0u)→s.den→D
 | .sig,x=>a0h.toD x
 | .expr,x=>a0b.toD x
 | .oExpr,x=>a3u.toD x
 | .prog,x=>a0d.toD x
 | .triple,x=>a1g.toD x
 | .premise,x=>a0e.toD x
 | .l00Src,x=>b7c.toD x
 | .l01Gen,x=>b7d.toD x
 | .l06Gen,x=>b7e.toD x
def Ty.toD:(t:Ty)→t.den→D
 | .int k,n => .int k n
 | .bool,b => .bool b
 | .str,s => .str s
 | .slice t,xs => .slice t.size (xs.map t.toD)
 | .st s,x=>s.toD x
 | .mv t,o=>mvD t.size t.toD o
 | .ptr,_ => .ptr
def TV.toD(v:TV):D:=v.τ.toD v.x
theorem a0u.toD_cells(s:a0u)(x:s.den):s.toD x = .agg ((s.cells x).map TV.toD):=by
 cases s<;>first
  | rfl
  | (cases x;simp[a0u.toD,a0b.toD,a0u.cells,TV.toD,Ty.toD,Ty.size,a0u.size,a0b.toDs_eq];done)
  | (cases x;simp[a0u.toD,a0d.toD,a0u.cells,TV.toD,Ty.toD,Ty.size,a0u.size,a0d.toDs_eq];done)
  | (simp[a0u.toD,a0u.cells,TV.toD,Ty.toD,Ty.size,a0u.size,a0h.toD,a0b.toD,a3u.toD,a0d.toD,a1g.toD,a0e.toD,b7c.toD,b7d.toD,b7e.toD,a0b.toDs_eq,a0d.toDs_eq];done)
def a0u.zero:(s:a0u)→s.den
 | .sig=>(a0h.mk 0 0)
 | .expr=>(a0b.mk 0 0 [])
 | .oExpr=>(a3u.mk 0 0 none)
 | .prog=>(a0d.mk 0 0 (a0b.mk 0 0 []) [])
 | .triple=>(a1g.mk (a0b.mk 0 0 []) (a0d.mk 0 0 (a0b.mk 0 0 []) []) (a0b.mk 0 0 []))
 | .premise=>(a0e.mk (a0b.mk 0 0 []) 0 (a0b.mk 0 0 []))
 | .l00Src=>(b7c.mk [] 0 0)
 | .l01Gen=>(b7d.mk () (a0h.mk 0 0) 0)
 | .l06Gen=>(b7e.mk () (a0h.mk 0 0) 0)
def Ty.zero:(t:Ty)→t.den
 | .int _=>(0:Int)
 | .bool=>false
 | .str=>([]:List UInt8)
 | .slice _=>[]
 | .st s=>s.zero
 | .mv _=>none
 | .ptr=>()
instance:Inhabited a0h:=⟨a0u.zero .sig⟩
theorem a0h.eta(x:a0h):a0h.mk x.tests x.actions=x:=by cases x;rfl
instance:Inhabited a0b:=⟨a0u.zero .expr⟩
theorem a0b.eta(x:a0b):a0b.mk x.kind x.num x.kids=x:=by cases x;rfl
instance:Inhabited a3u:=⟨a0u.zero .oExpr⟩
theorem a3u.eta(x:a3u):a3u.mk x.kind x.num x.kids=x:=by cases x;rfl
instance:Inhabited a0d:=⟨a0u.zero .prog⟩
theorem a0d.eta(x:a0d):a0d.mk x.kind x.num x.cond x.kids=x:=by cases x;rfl
instance:Inhabited a1g:=⟨a0u.zero .triple⟩
theorem a1g.eta(x:a1g):a1g.mk x.pre x.prog x.post=x:=by cases x;rfl
instance:Inhabited a0e:=⟨a0u.zero .premise⟩
theorem a0e.eta(x:a0e):a0e.mk x.pre x.act x.post=x:=by cases x;rfl
instance:Inhabited b7c:=⟨a0u.zero .l00Src⟩
theorem b7c.eta(x:b7c):b7c.mk x.code x.pos x.seed=x:=by cases x;rfl
instance:Inhabited b7d:=⟨a0u.zero .l01Gen⟩
theorem b7d.eta(x:b7d):b7d.mk x.s x.g x.left=x:=by cases x;rfl
instance:Inhabited b7e:=⟨a0u.zero .l06Gen⟩
theorem b7e.eta(x:b7e):b7e.mk x.s x.g x.left=x:=by cases x;rfl
def a0n(x:a0b):a0b:=a0b.mk x.kind x.num x.kids
theorem a2u(x:a0b):a0n x=x:=by cases x;simp[a0n]
def a1a(x:a0d):a0d:=a0d.mk x.kind x.num (a0n x.cond) x.kids
theorem a2z(x:a0d):a1a x=x:=by cases x;simp[a1a,a2u]
def b3h(x:a1g):a1g:=a1g.mk (a0n x.pre) (a1a x.prog) (a0n x.post)
theorem a2o(x:a1g):b3h x=x:=by cases x;simp[b3h,a2u,a2z]
def e0k(x:a0e):a0e:=a0e.mk (a0n x.pre) x.act (a0n x.post)
theorem a2f(x:a0e):e0k x=x:=by cases x;simp[e0k,a2u]
theorem a0u.fields_ex:∀ (s:a0u) (fl:List TV),fl.map TV.τ=s.ftys→∃ x,s.fields x=fl
 | .sig,fl,h=>by
  match fl,h with
  | [⟨t0,a0⟩,⟨t1,a1⟩],h =>
   simp only[List.map_cons,List.map_nil,a0u.ftys,List.cons.injEq,and_true] at h
   obtain⟨rfl,rfl⟩:=h
   exact⟨⟨a0,a1⟩,rfl⟩
 | .expr,fl,h=>by
  match fl,h with
  | [⟨t0,a0⟩,⟨t1,a1⟩,⟨t2,a2⟩],h =>
   simp only[List.map_cons,List.map_nil,a0u.ftys,List.cons.injEq,and_true] at h
   obtain⟨rfl,rfl,rfl⟩:=h
   exact⟨⟨a0,a1,a2⟩,rfl⟩
 | .oExpr,fl,h=>by
  match fl,h with
  | [⟨t0,a0⟩,⟨t1,a1⟩,⟨t2,a2⟩],h =>
   simp only[List.map_cons,List.map_nil,a0u.ftys,List.cons.injEq,and_true] at h
   obtain⟨rfl,rfl,rfl⟩:=h
   exact⟨⟨a0,a1,a2⟩,rfl⟩
 | .prog,fl,h=>by
  match fl,h with
  | [⟨t0,a0⟩,⟨t1,a1⟩,⟨t2,a2⟩,⟨t3,a3⟩],h =>
   simp only[List.map_cons,List.map_nil,a0u.ftys,List.cons.injEq,and_true] at h
   obtain⟨rfl,rfl,rfl,rfl⟩:=h
   exact⟨⟨a0,a1,a2,a3⟩,rfl⟩
 | .triple,fl,h=>by
  match fl,h with
  | [⟨t0,a0⟩,⟨t1,a1⟩,⟨t2,a2⟩],h =>
   simp only[List.map_cons,List.map_nil,a0u.ftys,List.cons.injEq,and_true] at h
   obtain⟨rfl,rfl,rfl⟩:=h
   exact⟨⟨a0,a1,a2⟩,rfl⟩
 | .premise,fl,h=>by
  match fl,h with
  | [⟨t0,a0⟩,⟨t1,a1⟩,⟨t2,a2⟩],h =>
   simp only[List.map_cons,List.map_nil,a0u.ftys,List.cons.injEq,and_true] at h
   obtain⟨rfl,rfl,rfl⟩:=h
   exact⟨⟨a0,a1,a2⟩,rfl⟩
 | .l00Src,fl,h=>by
  match fl,h with
  | [⟨t0,a0⟩,⟨t1,a1⟩,⟨t2,a2⟩],h =>
   simp only[List.map_cons,List.map_nil,a0u.ftys,List.cons.injEq,and_true] at h
   obtain⟨rfl,rfl,rfl⟩:=h
   exact⟨⟨a0,a1,a2⟩,rfl⟩
 | .l01Gen,fl,h=>by
  match fl,h with
  | [⟨t0,a0⟩,⟨t1,a1⟩,⟨t2,a2⟩],h =>
   simp only[List.map_cons,List.map_nil,a0u.ftys,List.cons.injEq,and_true] at h
   obtain⟨rfl,rfl,rfl⟩:=h
   exact⟨⟨a0,a1,a2⟩,rfl⟩
 | .l06Gen,fl,h=>by
  match fl,h with
  | [⟨t0,a0⟩,⟨t1,a1⟩,⟨t2,a2⟩],h =>
   simp only[List.map_cons,List.map_nil,a0u.ftys,List.cons.injEq,and_true] at h
   obtain⟨rfl,rfl,rfl⟩:=h
   exact⟨⟨a0,a1,a2⟩,rfl⟩
abbrev zE:a0b:=a0b.mk (0:Int) (0:Int) []
abbrev zP:a0d:=a0d.mk (0:Int) (0:Int) (a0b.mk (0:Int) (0:Int) []) []
end Go.Proofs.YthebhlkdppmefaaGreat

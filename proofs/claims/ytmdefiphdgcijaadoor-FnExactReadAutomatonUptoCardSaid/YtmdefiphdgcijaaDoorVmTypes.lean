/- The data types of the program as Lean types; tables of their fields and cells. Printed by gen_types.py. -/
import Derived.KernelRfl
import GoSem.Claim
set_option linter.unusedVariables false
set_option linter.unusedSimpArgs false
namespace Go.Proofs.YtmdefiphdgcijaaDoor
def e4d:List Nat:=[]
inductive D where
 | int (k:IntKind) (n:Int)
 | bool (b:Bool)
 | str (s:List UInt8)
 | slice (n:Nat) (xs:List D)
 | agg (xs:List D)
 | hole
 | ptr
def mvD{α:Type}(n:Nat)(f:α→D):Option (List α)→D
 | none => .hole
 | some l => .slice n (l.map f)
inductive a0h where
 | sig
 | expr
 | oExpr
 | automaton
 deriving DecidableEq
inductive Ty where
 | int (k:IntKind)
 | bool
 | str
 | slice (t:Ty)
 | st (s:a0h)
 | mv (t:Ty)
 | ptr
 deriving DecidableEq
structure a0t where
 tests:Int
 actions:Int
structure a3l where
 kind:Int
 num:Int
 kids:List (a3l)
structure b4l where
 kind:Int
 num:Int
 kids:Option (List (a3l))
structure a0b where
 sig:a0t
 accept:List (List (Bool))
 next:List (List (List (Int)))
@[reducible] def a0h.den:a0h→Type
 | .sig=>a0t
 | .expr=>a3l
 | .oExpr=>b4l
 | .automaton=>a0b
@[reducible] def Ty.den:Ty→Type
 | .int _=>Int
 | .bool=>Bool
 | .str=>List UInt8
 | .slice t=>List t.den
 | .st s=>s.den
 | .mv t=>Option (List t.den)
 | .ptr=>Unit
structure TV where
 τ:Ty
 x:τ.den
def TV.as(τ:Ty)(v:TV):Option τ.den:=if h:v.τ=τ then some (h ▸ v.x) else none
theorem TV.as_some{τ:Ty}{v:TV}{x:τ.den}(h:v.as τ=some x):v=⟨τ,x⟩:=by
 unfold TV.as at h
 split at h
 ·rename_i e
  subst e
  cases v
  simp at h
  subst h
  rfl
 ·cases h
@[simp] theorem TV.as_mk(τ:Ty)(x:τ.den):TV.as τ ⟨τ,x⟩=some x:=by simp[TV.as]
def a0h.fields:(s:a0h)→s.den→List TV
 | .sig,x=>[⟨.int .i64,x.tests⟩,⟨.int .i64,x.actions⟩]
 | .expr,x=>[⟨.int .i64,x.kind⟩,⟨.int .i64,x.num⟩,⟨.slice (.st .expr),x.kids⟩]
 | .oExpr,x=>[⟨.int .i64,x.kind⟩,⟨.int .i64,x.num⟩,⟨.mv (.st .expr),x.kids⟩]
 | .automaton,x=>[⟨.st .sig,x.sig⟩,⟨.slice (.slice (.bool)),x.accept⟩,⟨.slice (.slice (.slice (.int .i64))),x.next⟩]
def a0h.cells:(s:a0h)→s.den→List TV
 | .sig,x=>[⟨.int .i64,x.tests⟩,⟨.int .i64,x.actions⟩]
 | .expr,x=>[⟨.int .i64,x.kind⟩,⟨.int .i64,x.num⟩,⟨.slice (.st .expr),x.kids⟩]
 | .oExpr,x=>[⟨.int .i64,x.kind⟩,⟨.int .i64,x.num⟩,⟨.mv (.st .expr),x.kids⟩]
 | .automaton,x=>[⟨.int .i64,x.sig.tests⟩,⟨.int .i64,x.sig.actions⟩,⟨.slice (.slice (.bool)),x.accept⟩,⟨.slice (.slice (.slice (.int .i64))),x.next⟩]
def a0h.size:a0h→Nat
 | .sig=>2
 | .expr=>3
 | .oExpr=>3
 | .automaton=>4
def a0h.ctys:a0h→List Ty
 | .sig=>[.int .i64, .int .i64]
 | .expr=>[.int .i64, .int .i64, .slice (.st .expr)]
 | .oExpr=>[.int .i64, .int .i64, .mv (.st .expr)]
 | .automaton=>[.int .i64, .int .i64, .slice (.slice (.bool)), .slice (.slice (.slice (.int .i64)))]
def a0h.ftys:a0h→List Ty
 | .sig=>[.int .i64, .int .i64]
 | .expr=>[.int .i64, .int .i64, .slice (.st .expr)]
 | .oExpr=>[.int .i64, .int .i64, .mv (.st .expr)]
 | .automaton=>[.st .sig, .slice (.slice (.bool)), .slice (.slice (.slice (.int .i64)))]
def a0h.ofCells:(s:a0h)→List TV→Option s.den
 | .sig,[a0,a1]=>(a0.as (.int .i64)).bind fun b0=>(a1.as (.int .i64)).bind fun b1=>some (a0t.mk b0 b1)
 | .expr,[a0,a1,a2]=>(a0.as (.int .i64)).bind fun b0=>(a1.as (.int .i64)).bind fun b1=>(a2.as (.slice (.st .expr))).bind fun b2=>some (a3l.mk b0 b1 b2)
 | .oExpr,[a0,a1,a2]=>(a0.as (.int .i64)).bind fun b0=>(a1.as (.int .i64)).bind fun b1=>(a2.as (.mv (.st .expr))).bind fun b2=>some (b4l.mk b0 b1 b2)
 | .automaton,[a0,a1,a2,a3]=>(a0.as (.int .i64)).bind fun b0=>(a1.as (.int .i64)).bind fun b1=>(a2.as (.slice (.slice (.bool)))).bind fun b2=>(a3.as (.slice (.slice (.slice (.int .i64))))).bind fun b3=>some (a0b.mk (a0t.mk b0 b1) b2 b3)
 | _,_=>none
theorem a0h.ofCells_some:∀ {s:a0h} {l:List TV} {x:s.den},s.ofCells l=some x→s.cells x=l:=by
 intro s l x h
 cases s
 case sig =>
  match l,h with
  | [a0,a1],h =>
   simp only[a0h.ofCells,Option.bind_eq_some_iff,Option.some.injEq] at h
   obtain⟨b0,h0,⟨b1,h1,rfl⟩⟩:=h
   have e0:=TV.as_some h0;have e1:=TV.as_some h1
   subst e0 e1
   rfl
 case expr =>
  match l,h with
  | [a0,a1,a2],h =>
   simp only[a0h.ofCells,Option.bind_eq_some_iff,Option.some.injEq] at h
   obtain⟨b0,h0,⟨b1,h1,⟨b2,h2,rfl⟩⟩⟩:=h
   have e0:=TV.as_some h0;have e1:=TV.as_some h1;have e2:=TV.as_some h2
   subst e0 e1 e2
   rfl
 case oExpr =>
  match l,h with
  | [a0,a1,a2],h =>
   simp only[a0h.ofCells,Option.bind_eq_some_iff,Option.some.injEq] at h
   obtain⟨b0,h0,⟨b1,h1,⟨b2,h2,rfl⟩⟩⟩:=h
   have e0:=TV.as_some h0;have e1:=TV.as_some h1;have e2:=TV.as_some h2
   subst e0 e1 e2
   rfl
 case automaton =>
  match l,h with
  | [a0,a1,a2,a3],h =>
   simp only[a0h.ofCells,Option.bind_eq_some_iff,Option.some.injEq] at h
   obtain⟨b0,h0,⟨b1,h1,⟨b2,h2,⟨b3,h3,rfl⟩⟩⟩⟩:=h
   have e0:=TV.as_some h0;have e1:=TV.as_some h1;have e2:=TV.as_some h2;have e3:=TV.as_some h3
   subst e0 e1 e2 e3
   rfl
theorem a0h.cells_length(s:a0h)(x:s.den):(s.cells x).length=s.size:=by cases s<;>rfl
theorem a0h.cells_tys(s:a0h)(x:s.den):(s.cells x).map TV.τ=s.ctys:=by cases s<;>rfl
theorem a0h.fields_tys(s:a0h)(x:s.den):(s.fields x).map TV.τ=s.ftys:=by cases s<;>rfl
def Ty.size:Ty→Nat
 | .st s=>s.size
 | _=>1
def TV.cells(v:TV):List TV :=
 match v with
 | ⟨.st s,x⟩=>s.cells x
 | v=>[v]
theorem a0h.cells_fields(s:a0h)(x:s.den):s.cells x=(s.fields x).flatMap TV.cells:=by cases s<;>rfl
def a0t.toD(x:a0t):D := .agg [.int .i64 x.tests, .int .i64 x.actions]
mutual
def a3l.toD:a3l→D
 | ⟨kind,num,kids⟩ => .agg [.int .i64 kind, .int .i64 num, .slice 3 (a3l.toDs kids)]
def a3l.toDs:List a3l→List D
 | []=>[]
 | e::r=>e.toD::a3l.toDs r
end
theorem a3l.toDs_eq:∀ l,a3l.toDs l=l.map a3l.toD
 | []=>rfl
 | _::r=>congrArg _ (a3l.toDs_eq r)
def b4l.toD(x:b4l):D := .agg [.int .i64 x.kind, .int .i64 x.num,mvD 3 (fun y=>a3l.toD y) x.kids]
def a0b.toD(x:a0b):D := .agg [.int .i64 x.sig.tests, .int .i64 x.sig.actions, .slice 1 (x.accept.map fun y => .slice 1 (y.map fun y => .bool y)), .slice 1 (x.next.map fun y => .slice 1 (y.map fun y => .slice 1 (y.map fun y => .int .i64 y)))]
def a0h.toD:(s:a0h)→s.den→D
 | .sig,x=>a0t.toD x
 | .expr,x=>a3l.toD x
 | .oExpr,x=>b4l.toD x
 | .automaton,x=>a0b.toD x
def Ty.toD:(t:Ty)→t.den→D
 | .int k,n => .int k n
 | .bool,b => .bool b
 | .str,s => .str s
 | .slice t,xs => .slice t.size (xs.map t.toD)
 | .st s,x=>s.toD x
 | .mv t,o=>mvD t.size t.toD o
 | .ptr,_ => .ptr
def TV.toD(v:TV):D:=v.τ.toD v.x
theorem a0h.toD_cells(s:a0h)(x:s.den):s.toD x = .agg ((s.cells x).map TV.toD):=by
 cases s<;>first
  | rfl
  | (cases x;simp[a0h.toD,a3l.toD,a0h.cells,TV.toD,Ty.toD,Ty.size,a0h.size,a3l.toDs_eq];done)
  | (simp[a0h.toD,a0h.cells,TV.toD,Ty.toD,Ty.size,a0h.size,a0t.toD,a3l.toD,b4l.toD,a0b.toD,a3l.toDs_eq];done)
def a0h.zero:(s:a0h)→s.den
 | .sig=>(a0t.mk 0 0)
 | .expr=>(a3l.mk 0 0 [])
 | .oExpr=>(b4l.mk 0 0 none)
 | .automaton=>(a0b.mk (a0t.mk 0 0) [] [])
def Ty.zero:(t:Ty)→t.den
 | .int _=>(0:Int)
 | .bool=>false
 | .str=>([]:List UInt8)
 | .slice _=>[]
 | .st s=>s.zero
 | .mv _=>none
 | .ptr=>()
instance:Inhabited a0t:=⟨a0h.zero .sig⟩
instance:Inhabited a3l:=⟨a0h.zero .expr⟩
instance:Inhabited b4l:=⟨a0h.zero .oExpr⟩
instance:Inhabited a0b:=⟨a0h.zero .automaton⟩
theorem a0h.fields_ex:∀ (s:a0h) (fl:List TV),fl.map TV.τ=s.ftys→∃ x,s.fields x=fl
 | .sig,fl,h=>by
  match fl,h with
  | [⟨t0,a0⟩,⟨t1,a1⟩],h =>
   simp only[List.map_cons,List.map_nil,a0h.ftys,List.cons.injEq,and_true] at h
   obtain⟨rfl,rfl⟩:=h
   exact⟨⟨a0,a1⟩,rfl⟩
 | .expr,fl,h=>by
  match fl,h with
  | [⟨t0,a0⟩,⟨t1,a1⟩,⟨t2,a2⟩],h =>
   simp only[List.map_cons,List.map_nil,a0h.ftys,List.cons.injEq,and_true] at h
   obtain⟨rfl,rfl,rfl⟩:=h
   exact⟨⟨a0,a1,a2⟩,rfl⟩
 | .oExpr,fl,h=>by
  match fl,h with
  | [⟨t0,a0⟩,⟨t1,a1⟩,⟨t2,a2⟩],h =>
   simp only[List.map_cons,List.map_nil,a0h.ftys,List.cons.injEq,and_true] at h
   obtain⟨rfl,rfl,rfl⟩:=h
   exact⟨⟨a0,a1,a2⟩,rfl⟩
 | .automaton,fl,h=>by
  match fl,h with
  | [⟨t0,a0⟩,⟨t1,a1⟩,⟨t2,a2⟩],h =>
   simp only[List.map_cons,List.map_nil,a0h.ftys,List.cons.injEq,and_true] at h
   obtain⟨rfl,rfl,rfl⟩:=h
   exact⟨⟨a0,a1,a2⟩,rfl⟩
abbrev zE:a3l:=a3l.mk (0:Int) (0:Int) []
end Go.Proofs.YtmdefiphdgcijaaDoor

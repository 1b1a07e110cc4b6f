/- VmTypes, VmCore, VmRead, VmOwn, VmMap, VmInv, VmEnv, VmVals, VmRuns, VmMake, VmOps. -/
import Derived.KernelRfl
import GoSem.Claim
import Derived.Orders
import Derived.Laws.AppendOwn
import Derived.Laws.OwnMore
import Derived.Below
import Derived.MapKept
import Derived.Calls
import Derived.Laws.Cells
import Derived.Laws.Slices
import Derived.Laws.Strings
import Derived.Maps.AppendAt
import Derived.IntWalk
import Derived.Laws.Small
import Derived.Laws.CopyRow
import Derived.Lib.Strings
set_option linter.all false
namespace Go.Proofs.YtmjfpcajohhbeaaGreatDoor
def b6k:=@Option.bind_eq_some_iff
def b4L:=@Option.some.injEq
def b5J:=@List.map_cons
def b6K:=@List.map_nil
def b4X:=@List.cons.injEq
def b5d:=@and_true
def b7w:=@Go.World.cell?_of_block
def b6i:=@Nat.add_mul
def b5f:=@List.length_append
def b4Y:=@List.length_cons
def b6V:=@List.getElem?_append_left
def b5K:=@List.getElem?_eq_some_iff
def b5Q:=@Nat.lt_or_ge
def b6s:=@List.getElem?_append_right
def b7m:=@Nat.add_sub_cancel_left
def b4S:=@Bool.and_eq_true
def b6C:=@List.drop_drop
def b7i:=@List.drop_left
def b8t:=@List.take_append
def b5o:=@List.take_of_length_le
def b7S:=@Nat.zero_mul
def b7b:=@List.drop_zero
def b7c:=@List.take_left
def b5T:=@List.take_zero
def b5q:=@List.nil_append
def b6w:=@Nat.zero_add
def b8d:=@List.set_cons_zero
def b5N:=@Go.run_underlying
def b7s:=@Go.MapKept.run_getObj_map
def b8y:=@List.getElem?_cons_zero
def b7G:=@List.pairwise_cons
def b6t:=@List.mem_of_getElem?
def b8l:=@Array.toList_push
def b5t:=@List.mem_singleton
def b4Q:=@List.mem_append
def b7J:=@List.ext_getElem?
def b7K:=@List.getElem?_set
def b5u:=@if_pos
def b7C:=@List.getElem_of_mem
def b6h:=@List.getElem_mem
def b5w:=@Nat.le_refl
def b6x:=@Nat.le_trans
def b5i:=@Nat.lt_of_lt_of_le
def b5h:=@List.mem_cons
def b6P:=@Iff.rfl
def b5I:=@Array.getD_eq_getD_getElem?
def b7Y:=@Array.getElem?_setIfInBounds
def b5L:=@Option.map_eq_some_iff
def b4Z:=@if_neg
def b6M:=@if_true
def b4O:=@Nat.eq_of_beq_eq_true
def b5E:=@of_decide_eq_true
def b7f:=@Go.Addr.add_lit
def b5x:=@Go.Sem.run_bind
def b5A:=@Go.Sem.run_pure
def b5r:=@Go.Result.andThen_ok
def b6R:=@Nat.add_zero
def b5U:=@List.eq_nil_of_length_eq_zero
def b5p:=@List.getElem?_eq_getElem
def b7E:=@Option.some.inj
def b5F:=@List.all_eq_true
def b6E:=@List.drop_eq_getElem_cons
def b5R:=@Nat.le_of_ble_eq_true
def b5n:=@List.length_take
def b6f:=@List.length_drop
def b6o:=@List.getElem?_take
def b6z:=@List.getElem?_drop
def b7L:=@Nat.add_assoc
def b4W:=@List.mem_map
def b7k:=@Go.Value.pointer.injEq
def b6A:=@Go.Addr.mk.injEq
def b7O:=@eq_of_heq
def b7I:=@Int.eq_ofNat_of_zero_le
def b5e:=@Int.toNat_natCast
def b4P:=@Prod.mk.injEq
def b8M:=@Go.ByteArray.toList_eq
def b6O:=@Bool.eq_iff_iff
def b8m:=@Go.eqGuard_at_string
def b5S:=@Array.length_toList
def b6c:=@Array.getElem?_eq_getElem
def b8E:=@Array.ext'
def b4U:=@Bool.false_eq_true
def b7M:=@if_false
def b7X:=@List.take_succ_cons
def b5O:=@List.append_assoc
def b5j:=@List.length_nil
def b7j:=@List.take_length
def b6a:=@List.append_nil
def b7x:=@List.replicate_succ'
def b5g:=@List.length_map
def b7T:=@Option.map_none
def b7o:=@Option.map_some
def b8B:=@Go.run_sliceBound
def b5Y:=@Nat.zero_le
def b7Z:=@Go.heap_alloc_new
def b6T:=@List.length_replicate
def b6N:=@Nat.mul_le_mul_right
def b8Q:=@List.map_replicate
def b4N:=@decide_eq_true_eq
def b7t:=@List.mapM_cons
def b8a:=@Nat.mul_le_mul
def b5X:=@Array.toArray_toList
def b6D:=@List.getElem?_map
def b6v:=@Go.Value.slice.injEq
def b6S:=@Array.toList_map
def a3G:List Nat:=[0]
inductive D where
 | int (k:IntKind) (n:Int)
 | bool (b:Bool)
 | str (s:List UInt8)
 | slice (n:Nat) (xs:List D)
 | agg (xs:List D)
 | hole
 | ptr
def mvD{α:Type}(n:Nat)(f:α->D):Option (List α)->D
 | none => .hole
 | some l => .slice n (l.map f)
inductive aV where
 | sig
 | expr
 | oExpr
 | equation
 | proofStep
 | claim
 | proof
 | reader
 | l01Reader
 deriving DecidableEq
inductive Ty where
 | int (k:IntKind)
 | bool
 | str
 | slice (t:Ty)
 | st (s:aV)
 | mv (t:Ty)
 | ptr
 deriving DecidableEq
structure aW where
 aw:Int
 bh:Int
structure J where
 aq:Int
 aS:Int
 M:List (J)
structure oj where
 aq:Int
 aS:Int
 M:Option (List (J))
structure au where
 left:J
 right:J
structure U where
 use:Int
 back:Bool
 path:List (Int)
 aw:List (J)
 bd:List (J)
structure ag where
 left:J
 right:J
 aM:Int
 ref:Int
 steps:List (U)
structure ai where
 sig:aW
 af:List (ag)
structure lN where
 text:List UInt8
 pos:Int
structure fL where
 text:List UInt8
 pos:Int
 a4X:Int
 bad:Bool
@[reducible] def aV.den:aV->Type
 | .sig=>aW
 | .expr=>J
 | .oExpr=>oj
 | .equation=>au
 | .proofStep=>U
 | .claim=>ag
 | .proof=>ai
 | .reader=>lN
 | .l01Reader=>fL
@[reducible] def Ty.den:Ty->Type
 | .int _=>Int
 | .bool=>Bool
 | .str=>List UInt8
 | .slice t=>List t.den
 | .st s=>s.den
 | .mv t=>Option (List t.den)
 | .ptr=>Unit
structure TV where
 τ:Ty
 x:τ.den
def TV.Z9(τ:Ty)(v:TV):Option τ.den:=if h:v.τ=τ then some (h ▸ v.x) else none
def TV.aU{τ:Ty}{v:TV}{x:τ.den}(h:v.Z9 τ=some x):v=⟨τ,x⟩:=by
 unfold TV.Z9 at h;split at h
 .rename_i e;subst e;cases v;simp at h;subst h;rfl
 .cases h
@[simp] theorem TV.a3i(τ:Ty)(x:τ.den):TV.Z9 τ ⟨τ,x⟩=some x:=by simp[TV.Z9]
def aV.fields:(s:aV)->s.den->List TV
 | .sig,x=>[⟨.int .i64,x.aw⟩,⟨.int .i64,x.bh⟩]
 | .expr,x=>[⟨.int .i64,x.aq⟩,⟨.int .i64,x.aS⟩,⟨.slice (.st .expr),x.M⟩]
 | .oExpr,x=>[⟨.int .i64,x.aq⟩,⟨.int .i64,x.aS⟩,⟨.mv (.st .expr),x.M⟩]
 | .equation,x=>[⟨.st .expr,x.left⟩,⟨.st .expr,x.right⟩]
 | .proofStep,x=>[⟨.int .i64,x.use⟩,⟨.bool,x.back⟩,⟨.slice (.int .i64),x.path⟩,⟨.slice (.st .expr),x.aw⟩,⟨.slice (.st .expr),x.bd⟩]
 | .claim,x=>[⟨.st .expr,x.left⟩,⟨.st .expr,x.right⟩,⟨.int .i64,x.aM⟩,⟨.int .i64,x.ref⟩,⟨.slice (.st .proofStep),x.steps⟩]
 | .proof,x=>[⟨.st .sig,x.sig⟩,⟨.slice (.st .claim),x.af⟩]
 | .reader,x=>[⟨.str,x.text⟩,⟨.int .i64,x.pos⟩]
 | .l01Reader,x=>[⟨.str,x.text⟩,⟨.int .i64,x.pos⟩,⟨.int .i64,x.a4X⟩,⟨.bool,x.bad⟩]
def aV.cells:(s:aV)->s.den->List TV
 | .sig,x=>[⟨.int .i64,x.aw⟩,⟨.int .i64,x.bh⟩]
 | .expr,x=>[⟨.int .i64,x.aq⟩,⟨.int .i64,x.aS⟩,⟨.slice (.st .expr),x.M⟩]
 | .oExpr,x=>[⟨.int .i64,x.aq⟩,⟨.int .i64,x.aS⟩,⟨.mv (.st .expr),x.M⟩]
 | .equation,x=>[⟨.int .i64,x.left.aq⟩,⟨.int .i64,x.left.aS⟩,⟨.slice (.st .expr),x.left.M⟩,⟨.int .i64,x.right.aq⟩,⟨.int .i64,x.right.aS⟩,⟨.slice (.st .expr),x.right.M⟩]
 | .proofStep,x=>[⟨.int .i64,x.use⟩,⟨.bool,x.back⟩,⟨.slice (.int .i64),x.path⟩,⟨.slice (.st .expr),x.aw⟩,⟨.slice (.st .expr),x.bd⟩]
 | .claim,x=>[⟨.int .i64,x.left.aq⟩,⟨.int .i64,x.left.aS⟩,⟨.slice (.st .expr),x.left.M⟩,⟨.int .i64,x.right.aq⟩,⟨.int .i64,x.right.aS⟩,⟨.slice (.st .expr),x.right.M⟩,⟨.int .i64,x.aM⟩,⟨.int .i64,x.ref⟩,⟨.slice (.st .proofStep),x.steps⟩]
 | .proof,x=>[⟨.int .i64,x.sig.aw⟩,⟨.int .i64,x.sig.bh⟩,⟨.slice (.st .claim),x.af⟩]
 | .reader,x=>[⟨.str,x.text⟩,⟨.int .i64,x.pos⟩]
 | .l01Reader,x=>[⟨.str,x.text⟩,⟨.int .i64,x.pos⟩,⟨.int .i64,x.a4X⟩,⟨.bool,x.bad⟩]
def aV.size:aV->Nat
 | .sig=>2
 | .expr=>3
 | .oExpr=>3
 | .equation=>6
 | .proofStep=>5
 | .claim=>9
 | .proof=>3
 | .reader=>2
 | .l01Reader=>4
def aV.tA:aV->List Ty
 | .sig=>[.int .i64, .int .i64]
 | .expr=>[.int .i64, .int .i64, .slice (.st .expr)]
 | .oExpr=>[.int .i64, .int .i64, .mv (.st .expr)]
 | .equation=>[.int .i64, .int .i64, .slice (.st .expr), .int .i64, .int .i64, .slice (.st .expr)]
 | .proofStep=>[.int .i64, .bool, .slice (.int .i64), .slice (.st .expr), .slice (.st .expr)]
 | .claim=>[.int .i64, .int .i64, .slice (.st .expr), .int .i64, .int .i64, .slice (.st .expr), .int .i64, .int .i64, .slice (.st .proofStep)]
 | .proof=>[.int .i64, .int .i64, .slice (.st .claim)]
 | .reader=>[.str, .int .i64]
 | .l01Reader=>[.str, .int .i64, .int .i64, .bool]
def aV.fX:aV->List Ty
 | .sig=>[.int .i64, .int .i64]
 | .expr=>[.int .i64, .int .i64, .slice (.st .expr)]
 | .oExpr=>[.int .i64, .int .i64, .mv (.st .expr)]
 | .equation=>[.st .expr, .st .expr]
 | .proofStep=>[.int .i64, .bool, .slice (.int .i64), .slice (.st .expr), .slice (.st .expr)]
 | .claim=>[.st .expr, .st .expr, .int .i64, .int .i64, .slice (.st .proofStep)]
 | .proof=>[.st .sig, .slice (.st .claim)]
 | .reader=>[.str, .int .i64]
 | .l01Reader=>[.str, .int .i64, .int .i64, .bool]
def aV.fS:(s:aV)->List TV->Option s.den
 | .sig,[a0,a1]=>(a0.Z9 (.int .i64)).bind λ b0=>(a1.Z9 (.int .i64)).bind λ b1=>some (aW.mk b0 b1)
 | .expr,[a0,a1,a2]=>(a0.Z9 (.int .i64)).bind λ b0=>(a1.Z9 (.int .i64)).bind λ b1=>(a2.Z9 (.slice (.st .expr))).bind λ b2=>some (J.mk b0 b1 b2)
 | .oExpr,[a0,a1,a2]=>(a0.Z9 (.int .i64)).bind λ b0=>(a1.Z9 (.int .i64)).bind λ b1=>(a2.Z9 (.mv (.st .expr))).bind λ b2=>some (oj.mk b0 b1 b2)
 | .equation,[a0,a1,a2,a3,a4,a5]=>(a0.Z9 (.int .i64)).bind λ b0=>(a1.Z9 (.int .i64)).bind λ b1=>(a2.Z9 (.slice (.st .expr))).bind λ b2=>(a3.Z9 (.int .i64)).bind λ b3=>(a4.Z9 (.int .i64)).bind λ b4=>(a5.Z9 (.slice (.st .expr))).bind λ b5=>some (au.mk (J.mk b0 b1 b2) (J.mk b3 b4 b5))
 | .proofStep,[a0,a1,a2,a3,a4]=>(a0.Z9 (.int .i64)).bind λ b0=>(a1.Z9 (.bool)).bind λ b1=>(a2.Z9 (.slice (.int .i64))).bind λ b2=>(a3.Z9 (.slice (.st .expr))).bind λ b3=>(a4.Z9 (.slice (.st .expr))).bind λ b4=>some (U.mk b0 b1 b2 b3 b4)
 | .claim,[a0,a1,a2,a3,a4,a5,a6,a7,a8]=>(a0.Z9 (.int .i64)).bind λ b0=>(a1.Z9 (.int .i64)).bind λ b1=>(a2.Z9 (.slice (.st .expr))).bind λ b2=>(a3.Z9 (.int .i64)).bind λ b3=>(a4.Z9 (.int .i64)).bind λ b4=>(a5.Z9 (.slice (.st .expr))).bind λ b5=>(a6.Z9 (.int .i64)).bind λ b6=>(a7.Z9 (.int .i64)).bind λ b7=>(a8.Z9 (.slice (.st .proofStep))).bind λ b8=>some (ag.mk (J.mk b0 b1 b2) (J.mk b3 b4 b5) b6 b7 b8)
 | .proof,[a0,a1,a2]=>(a0.Z9 (.int .i64)).bind λ b0=>(a1.Z9 (.int .i64)).bind λ b1=>(a2.Z9 (.slice (.st .claim))).bind λ b2=>some (ai.mk (aW.mk b0 b1) b2)
 | .reader,[a0,a1]=>(a0.Z9 (.str)).bind λ b0=>(a1.Z9 (.int .i64)).bind λ b1=>some (lN.mk b0 b1)
 | .l01Reader,[a0,a1,a2,a3]=>(a0.Z9 (.str)).bind λ b0=>(a1.Z9 (.int .i64)).bind λ b1=>(a2.Z9 (.int .i64)).bind λ b2=>(a3.Z9 (.bool)).bind λ b3=>some (fL.mk b0 b1 b2 b3)
 | _,_=>none
def aV.og:∀ {s:aV} {l:List TV} {x:s.den},s.fS l=some x->s.cells x=l:=by
 intro s l x h;cases s;case sig =>
  match l,h with
  | [a0,a1],h =>
   simp only[aV.fS,b6k,b4L] at h;obtain⟨b0,h0,⟨b1,h1,rfl⟩⟩:=h;have e0:=TV.aU h0;have e1:=TV.aU h1;subst e0 e1;rfl
 case expr =>
  match l,h with
  | [a0,a1,a2],h =>
   simp only[aV.fS,b6k,b4L] at h;obtain⟨b0,h0,⟨b1,h1,⟨b2,h2,rfl⟩⟩⟩:=h;have e0:=TV.aU h0;have e1:=TV.aU h1;have e2:=TV.aU h2;subst e0 e1 e2;rfl
 case oExpr =>
  match l,h with
  | [a0,a1,a2],h =>
   simp only[aV.fS,b6k,b4L] at h;obtain⟨b0,h0,⟨b1,h1,⟨b2,h2,rfl⟩⟩⟩:=h;have e0:=TV.aU h0;have e1:=TV.aU h1;have e2:=TV.aU h2;subst e0 e1 e2;rfl
 case equation =>
  match l,h with
  | [a0,a1,a2,a3,a4,a5],h =>
   simp only[aV.fS,b6k,b4L] at h;obtain⟨b0,h0,⟨b1,h1,⟨b2,h2,⟨b3,h3,⟨b4,h4,⟨b5,h5,rfl⟩⟩⟩⟩⟩⟩:=h;have e0:=TV.aU h0;have e1:=TV.aU h1;have e2:=TV.aU h2;have e3:=TV.aU h3;have e4:=TV.aU h4;have e5:=TV.aU h5;subst e0 e1 e2 e3 e4 e5;rfl
 case proofStep =>
  match l,h with
  | [a0,a1,a2,a3,a4],h =>
   simp only[aV.fS,b6k,b4L] at h;obtain⟨b0,h0,⟨b1,h1,⟨b2,h2,⟨b3,h3,⟨b4,h4,rfl⟩⟩⟩⟩⟩:=h;have e0:=TV.aU h0;have e1:=TV.aU h1;have e2:=TV.aU h2;have e3:=TV.aU h3;have e4:=TV.aU h4;subst e0 e1 e2 e3 e4;rfl
 case claim =>
  match l,h with
  | [a0,a1,a2,a3,a4,a5,a6,a7,a8],h =>
   simp only[aV.fS,b6k,b4L] at h;obtain⟨b0,h0,⟨b1,h1,⟨b2,h2,⟨b3,h3,⟨b4,h4,⟨b5,h5,⟨b6,h6,⟨b7,h7,⟨b8,h8,rfl⟩⟩⟩⟩⟩⟩⟩⟩⟩:=h;have e0:=TV.aU h0;have e1:=TV.aU h1;have e2:=TV.aU h2;have e3:=TV.aU h3;have e4:=TV.aU h4;have e5:=TV.aU h5;have e6:=TV.aU h6;have e7:=TV.aU h7;have e8:=TV.aU h8;subst e0 e1 e2 e3 e4 e5 e6 e7 e8;rfl
 case proof =>
  match l,h with
  | [a0,a1,a2],h =>
   simp only[aV.fS,b6k,b4L] at h;obtain⟨b0,h0,⟨b1,h1,⟨b2,h2,rfl⟩⟩⟩:=h;have e0:=TV.aU h0;have e1:=TV.aU h1;have e2:=TV.aU h2;subst e0 e1 e2;rfl
 case reader =>
  match l,h with
  | [a0,a1],h =>
   simp only[aV.fS,b6k,b4L] at h;obtain⟨b0,h0,⟨b1,h1,rfl⟩⟩:=h;have e0:=TV.aU h0;have e1:=TV.aU h1;subst e0 e1;rfl
 case l01Reader =>
  match l,h with
  | [a0,a1,a2,a3],h =>
   simp only[aV.fS,b6k,b4L] at h;obtain⟨b0,h0,⟨b1,h1,⟨b2,h2,⟨b3,h3,rfl⟩⟩⟩⟩:=h;have e0:=TV.aU h0;have e1:=TV.aU h1;have e2:=TV.aU h2;have e3:=TV.aU h3;subst e0 e1 e2 e3;rfl
def aV.iV(s:aV)(x:s.den):(s.cells x).length=s.size:=by cases s<;>rfl
def aV.oJ(s:aV)(x:s.den):(s.cells x).map TV.τ=s.tA:=by cases s<;>rfl
def aV.AX(s:aV)(x:s.den):(s.fields x).map TV.τ=s.fX:=by cases s<;>rfl
def Ty.size:Ty->Nat
 | .st s=>s.size
 | _=>1
def TV.cells(v:TV):List TV :=
 match v with
 | ⟨.st s,x⟩=>s.cells x
 | v=>[v]
def aV.LL(s:aV)(x:s.den):s.cells x=(s.fields x).flatMap TV.cells:=by cases s<;>rfl
def aW.aP(x:aW):D := .agg [.int .i64 x.aw, .int .i64 x.bh]
mutual
def J.aP:J->D
 | ⟨aq,aS,M⟩ => .agg [.int .i64 aq, .int .i64 aS, .slice 3 (J.a9c M)]
def J.a9c:List J->List D
 | []=>[]
 | e::r=>e.aP::J.a9c r
end
def J.uw:∀ l,J.a9c l=l.map J.aP
 | []=>rfl
 | _::r=>congrArg _ (J.uw r)
def oj.aP(x:oj):D := .agg [.int .i64 x.aq, .int .i64 x.aS,mvD 3 (λ y=>J.aP y) x.M]
def au.aP(x:au):D := .agg [.int .i64 x.left.aq, .int .i64 x.left.aS, .slice 3 (x.left.M.map λ y=>J.aP y), .int .i64 x.right.aq, .int .i64 x.right.aS, .slice 3 (x.right.M.map λ y=>J.aP y)]
def U.aP(x:U):D := .agg [.int .i64 x.use, .bool x.back, .slice 1 (x.path.map λ y => .int .i64 y), .slice 3 (x.aw.map λ y=>J.aP y), .slice 3 (x.bd.map λ y=>J.aP y)]
def ag.aP(x:ag):D := .agg [.int .i64 x.left.aq, .int .i64 x.left.aS, .slice 3 (x.left.M.map λ y=>J.aP y), .int .i64 x.right.aq, .int .i64 x.right.aS, .slice 3 (x.right.M.map λ y=>J.aP y), .int .i64 x.aM, .int .i64 x.ref, .slice 5 (x.steps.map λ y=>U.aP y)]
def ai.aP(x:ai):D := .agg [.int .i64 x.sig.aw, .int .i64 x.sig.bh, .slice 9 (x.af.map λ y=>ag.aP y)]
def lN.aP(x:lN):D := .agg [.str x.text, .int .i64 x.pos]
def fL.aP(x:fL):D := .agg [.str x.text, .int .i64 x.pos, .int .i64 x.a4X, .bool x.bad]
def aV.aP:(s:aV)->s.den->D
 | .sig,x=>aW.aP x
 | .expr,x=>J.aP x
 | .oExpr,x=>oj.aP x
 | .equation,x=>au.aP x
 | .proofStep,x=>U.aP x
 | .claim,x=>ag.aP x
 | .proof,x=>ai.aP x
 | .reader,x=>lN.aP x
 | .l01Reader,x=>fL.aP x
def Ty.aP:(t:Ty)->t.den->D
 | .int k,n => .int k n
 | .bool,b => .bool b
 | .str,s => .str s
 | .slice t,xs => .slice t.size (xs.map t.aP)
 | .st s,x=>s.aP x
 | .mv t,o=>mvD t.size t.aP o
 | .ptr,_ => .ptr
def TV.aP(v:TV):D:=v.τ.aP v.x
def aV.cz(s:aV)(x:s.den):s.aP x = .agg ((s.cells x).map TV.aP):=by
 cases s<;>first
  | rfl
  | (cases x;simp[aV.aP,J.aP,aV.cells,TV.aP,Ty.aP,Ty.size,aV.size,J.uw];done)
  | (simp[aV.aP,aV.cells,TV.aP,Ty.aP,Ty.size,aV.size,aW.aP,J.aP,oj.aP,au.aP,U.aP,ag.aP,ai.aP,lN.aP,fL.aP,J.uw];done)
def aV.zero:(s:aV)->s.den
 | .sig=>(aW.mk 0 0)
 | .expr=>(J.mk 0 0 [])
 | .oExpr=>(oj.mk 0 0 none)
 | .equation=>(au.mk (J.mk 0 0 []) (J.mk 0 0 []))
 | .proofStep=>(U.mk 0 false [] [] [])
 | .claim=>(ag.mk (J.mk 0 0 []) (J.mk 0 0 []) 0 0 [])
 | .proof=>(ai.mk (aW.mk 0 0) [])
 | .reader=>(lN.mk [] 0)
 | .l01Reader=>(fL.mk [] 0 0 false)
def Ty.zero:(t:Ty)->t.den
 | .int _=>(0:Int)
 | .bool=>false
 | .str=>([]:List UInt8)
 | .slice _=>[]
 | .st s=>s.zero
 | .mv _=>none
 | .ptr=>()
instance:Inhabited aW:=⟨aV.zero .sig⟩
def aW.eta(x:aW):aW.mk x.aw x.bh=x:=by cases x;rfl
instance:Inhabited J:=⟨aV.zero .expr⟩
def J.eta(x:J):J.mk x.aq x.aS x.M=x:=by cases x;rfl
instance:Inhabited oj:=⟨aV.zero .oExpr⟩
def oj.eta(x:oj):oj.mk x.aq x.aS x.M=x:=by cases x;rfl
instance:Inhabited au:=⟨aV.zero .equation⟩
def au.eta(x:au):au.mk x.left x.right=x:=by cases x;rfl
instance:Inhabited U:=⟨aV.zero .proofStep⟩
def U.eta(x:U):U.mk x.use x.back x.path x.aw x.bd=x:=by cases x;rfl
instance:Inhabited ag:=⟨aV.zero .claim⟩
def ag.eta(x:ag):ag.mk x.left x.right x.aM x.ref x.steps=x:=by cases x;rfl
instance:Inhabited ai:=⟨aV.zero .proof⟩
def ai.eta(x:ai):ai.mk x.sig x.af=x:=by cases x;rfl
instance:Inhabited lN:=⟨aV.zero .reader⟩
def lN.eta(x:lN):lN.mk x.text x.pos=x:=by cases x;rfl
instance:Inhabited fL:=⟨aV.zero .l01Reader⟩
def fL.eta(x:fL):fL.mk x.text x.pos x.a4X x.bad=x:=by cases x;rfl
def aI(x:J):J:=J.mk x.aq x.aS x.M
def aK(x:J):aI x=x:=by cases x;simp[aI]
def lR(x:au):au:=au.mk (aI x.left) (aI x.right)
def br(x:au):lR x=x:=by cases x;simp[lR,aK]
def qb(x:ag):ag:=ag.mk (aI x.left) (aI x.right) x.aM x.ref x.steps
def bL(x:ag):qb x=x:=by cases x;simp[qb,aK]
def aV.a3B:∀ (s:aV) (fl:List TV),fl.map TV.τ=s.fX->∃ x,s.fields x=fl
 | .sig,fl,h=>by
  match fl,h with
  | [⟨t0,a0⟩,⟨t1,a1⟩],h =>
   simp only[b5J,b6K,aV.fX,b4X,b5d] at h;obtain⟨rfl,rfl⟩:=h;exact⟨⟨a0,a1⟩,rfl⟩
 | .expr,fl,h=>by
  match fl,h with
  | [⟨t0,a0⟩,⟨t1,a1⟩,⟨t2,a2⟩],h =>
   simp only[b5J,b6K,aV.fX,b4X,b5d] at h;obtain⟨rfl,rfl,rfl⟩:=h;exact⟨⟨a0,a1,a2⟩,rfl⟩
 | .oExpr,fl,h=>by
  match fl,h with
  | [⟨t0,a0⟩,⟨t1,a1⟩,⟨t2,a2⟩],h =>
   simp only[b5J,b6K,aV.fX,b4X,b5d] at h;obtain⟨rfl,rfl,rfl⟩:=h;exact⟨⟨a0,a1,a2⟩,rfl⟩
 | .equation,fl,h=>by
  match fl,h with
  | [⟨t0,a0⟩,⟨t1,a1⟩],h =>
   simp only[b5J,b6K,aV.fX,b4X,b5d] at h;obtain⟨rfl,rfl⟩:=h;exact⟨⟨a0,a1⟩,rfl⟩
 | .proofStep,fl,h=>by
  match fl,h with
  | [⟨t0,a0⟩,⟨t1,a1⟩,⟨t2,a2⟩,⟨t3,a3⟩,⟨t4,a4⟩],h =>
   simp only[b5J,b6K,aV.fX,b4X,b5d] at h;obtain⟨rfl,rfl,rfl,rfl,rfl⟩:=h;exact⟨⟨a0,a1,a2,a3,a4⟩,rfl⟩
 | .claim,fl,h=>by
  match fl,h with
  | [⟨t0,a0⟩,⟨t1,a1⟩,⟨t2,a2⟩,⟨t3,a3⟩,⟨t4,a4⟩],h =>
   simp only[b5J,b6K,aV.fX,b4X,b5d] at h;obtain⟨rfl,rfl,rfl,rfl,rfl⟩:=h;exact⟨⟨a0,a1,a2,a3,a4⟩,rfl⟩
 | .proof,fl,h=>by
  match fl,h with
  | [⟨t0,a0⟩,⟨t1,a1⟩],h =>
   simp only[b5J,b6K,aV.fX,b4X,b5d] at h;obtain⟨rfl,rfl⟩:=h;exact⟨⟨a0,a1⟩,rfl⟩
 | .reader,fl,h=>by
  match fl,h with
  | [⟨t0,a0⟩,⟨t1,a1⟩],h =>
   simp only[b5J,b6K,aV.fX,b4X,b5d] at h;obtain⟨rfl,rfl⟩:=h;exact⟨⟨a0,a1⟩,rfl⟩
 | .l01Reader,fl,h=>by
  match fl,h with
  | [⟨t0,a0⟩,⟨t1,a1⟩,⟨t2,a2⟩,⟨t3,a3⟩],h =>
   simp only[b5J,b6K,aV.fX,b4X,b5d] at h;obtain⟨rfl,rfl,rfl,rfl⟩:=h;exact⟨⟨a0,a1,a2,a3⟩,rfl⟩
abbrev zE:J:=J.mk (0:Int) (0:Int) []
def ae:True:=trivial
noncomputable section
@[reducible] def FN:List Ty->Ty->Type
 | [],r=>Prop×r.den
 | t::ts,r=>t.den->FN ts r
structure FV where
 ps:List Ty
 r:Ty
 F:FN ps r
def FV.Z9(ps:List Ty)(r:Ty)(v:FV):Option (FN ps r):=if h:v.ps=ps then (if k:v.r=r then some (h ▸ k ▸ v.F) else none) else none
def FV.aU{ps:List Ty}{r:Ty}{v:FV}{F:FN ps r}(h:v.Z9 ps r=some F):v=⟨ps,r,F⟩:=by
 unfold FV.Z9 at h;split at h
 .split at h
  .rename_i e k;obtain⟨ps',r',F'⟩:=v;simp only at e k;subst e k;simp at h;subst h;rfl
  .cases h
 .cases h
@[simp] theorem FV.a3i(ps:List Ty)(r:Ty)(F:FN ps r):FV.Z9 ps r ⟨ps,r,F⟩=some F:=by simp[FV.Z9]
structure MV where
 κ:Ty
 ε:Ty
 f:κ.den->Option ε.den
 n:Nat
def MV.Z9(κ ε:Ty)(m:MV):Option ((κ.den->Option ε.den)×Nat):=if h:m.κ=κ then (if k:m.ε=ε then some (h ▸ k ▸ (m.f,m.n)) else none) else none
def MV.aU{κ ε:Ty}{m:MV}{F:(κ.den->Option ε.den)×Nat}(h:m.Z9 κ ε=some F):m=⟨κ,ε,F.1,F.2⟩:=by
 unfold MV.Z9 at h;split at h
 .split at h
  .rename_i e k;obtain⟨κ',ε',f',n'⟩:=m;simp only at e k;subst e k;simp at h;subst h;rfl
  .cases h
 .cases h
@[simp] theorem MV.a3i(κ ε:Ty)(f:κ.den->Option ε.den)(n:Nat):MV.Z9 κ ε ⟨κ,ε,f,n⟩=some (f,n):=by simp[MV.Z9]
def Mb{α β:Type}(f:α->Option β)(k:α)(v:β):α->Option β:=λ x => @ite _ (x=k) (Classical.propDecidable _) (some v) (f x)
def TS{β:Type}(o:Option β)(n:Nat):Nat:=bif o.isSome then n else n+1
inductive AV where
 | any
 | ep
 | aH (v:TV)
 | nil
 | cX (v:TV)
 | ptr (id off:Nat)
 | row (id:Nat)
 | eH (id i off:Nat)
 | agg (cs:List AV)
 | iS (vs:List AV)
 | fn (f:FuncId)
 | av (id:Nat)
 | sub (id i off sz:Nat)
 | eP (id i off sz:Nat)
 | dc (f:FuncId) (cs:List AV)
 | iF (v:FV)
 | mp (id:Nat)
inductive aB where
 | box (cs:List AV)
 | row (e:TypeId) (τ:Ty) (xs:List τ.den)
 | av (τ:Ty) (xs:List τ.den)
 | map (m:MV)
structure aj where
 aC:List AV
 aJ:List (Nat×aB)
inductive Arg where
 | val (v:TV)
 | ref (v:TV)
 | fn (f:FuncId)
 | dc (v:FV)
 | own (v:TV)
 | box (k:Nat)
inductive CK where
 | d (τ:Ty)
 | o (τ:Ty)
 | p (k:Nat)
structure SK where
 ps:List (Option Nat)
 sh:List (List CK)
def ah{α:Type}:List (Nat×α)->Nat->Option α
 | [],_=>none
 | (k,v)::r,n=>match Nat.beq k n with
  | true=>some v
  | false=>ah r n
abbrev Vc:=Option Prop
def Vc.ok:Vc->Prop
 | .none=>True
 | .some p=>p
def Vc.and(v:Vc)(K:Prop):Prop:=match v with
 | .none=>K
 | .some p=>p/\K
def Vc.jX{v:Vc}{K:Prop}(h:v.and K):v.ok/\K:=by
 cases v with
 | none=>exact⟨ae,h⟩
 | some p=>exact h
structure CI where
 τ:Ty
 g:τ.den->Int->Vc×τ.den×Int
structure nz where
 ps:List Ty
 r:Ty
 eE:List (Bool×Ty)
def Arg.Oz:Arg->Bool
 | .ref _ | .dc _ | .box _=>false
 | _=>true
inductive a1k where
 | box (cells:List TV)
 | row (e:TypeId) (τ:Ty) (xs:List τ.den)
 | res (l:List (Bool×TV))
structure Env where
 ty:List (Nat×Ty×Nat×Nat)
 pty:List (Nat×Ty)
 Pv:Nat->List Arg->Option (Vc×List TV)
 wr:List Nat:=[]
 own:List Nat:=[]
 Mg:Nat->List Arg->Option (Vc×List TV):=λ _ _=>none
 mark:Nat->Option CI:=λ _=>none
 dc:Nat->Option nz:=λ _=>none
 ro:List Nat:=[]
 tk:Nat->List Bool:=λ _=>[]
 sk:Nat->Option SK:=λ _=>none
 XZ:Nat->List Arg->List (List TV)->Option (Vc×List TV×List (List TV)):=λ _ _ _=>none
 mty:List (Nat×Ty×Ty):=[]
 TT:Nat->List Arg->Option (Vc×a1k):=λ _ _=>none
 cmp:List Nat:=[]
 Yc:Nat->List Arg->(τ:Ty)->List τ.den->Option (Vc×List τ.den):=λ _ _ _ _=>none
def aj.ah(s:aj)(id:Nat):Option aB:=YtmjfpcajohhbeaaGreatDoor.ah s.aJ id
def V7(k:IntKind)(n:Int):Bool :=
 match n with
 | .ofNat m=>match k with
  | .i64=>Nat.ble m 9223372036854775807
  | .u64=>Nat.ble m 18446744073709551615
  | .u8=>Nat.ble m 255
  | _=>Nat.ble m 127
 | .negSucc m=>match k with
  | .i64=>Nat.ble m 9223372036854775807
  | _=>false
def Pr:Value->AV
 | .int k n=>match V7 k n with
  | true => .aH ⟨.int k,n⟩
  | false => .any
 | .bool b => .aH ⟨.bool,b⟩
 | .string s=>match Nat.ble s.data.size 1000000 with
  | true => .aH ⟨.str,s.data.toList⟩
  | false => .any
 | .slice none 0 0 => .nil
 | _ => .any
def a1C:Value->AV
 | .agg cs => .agg (cs.toList.map Pr)
 | .tuple cs=>match Nat.beq cs.size 0 with
  | true => .ep
  | false => .any
 | v=>Pr v
def aj.eval(s:aj):Operand->AV
 | .tmp t=>s.aC.getD t .any
 | .const v=>a1C v
 | .func f => .fn f
 | .global _ => .any
def jN(lk:Nat->Option aB)(τ:Ty):AV->Option τ.den
 | .aH v=>v.Z9 τ
 | .nil=>match τ with
  | .slice _=>some []
  | _=>none
 | .row id=>match lk id with
  | some (.row _ bf xs)=>TV.Z9 τ ⟨.slice bf,xs⟩
  | _=>none
 | .av id=>match lk id with
  | some (.av bf xs)=>TV.Z9 τ ⟨.slice bf,xs⟩
  | _=>none
 | _=>none
def QP(lk:Nat->Option aB)(id:Nat):Option aB:=match lk id with
 | some (.av _ _)=>none
 | o=>o
def VM(lk:Nat->Option aB):List AV->List Ty->Option (List TV)
 | [],[]=>some []
 | c::cs,t::ts=>match jN lk t c with
  | some x=>match VM lk cs ts with
   | some r=>some (⟨t,x⟩::r)
   | none=>none
  | none=>none
 | _,_=>none
def Ae(lk:Nat->Option aB)(τ:Ty):AV->Option τ.den
 | .agg cs=>match τ with
  | .st s=>match VM lk cs s.tA with
   | some l=>s.fS l
   | none=>none
  | _=>none
 | v=>jN lk τ v
def AV.cell:AV->Bool
 | .any | .ep | .agg _ | .iS _ | .eP .. | .dc .. | .iF .. => false
 | .aH v=>match v.τ with
  | .st _=>false
  | _=>true
 | _=>true
def cellsOf(τ:Ty)(v:AV):Option (List AV) :=
 match τ with
 | .st s=>match v with
  | .aH x=>match x.Z9 (.st s) with
   | some y=>some ((s.cells y).map .aH)
   | none=>none
  | .agg cs=>match Nat.beq cs.length s.size&&cs.all AV.cell with
   | true=>some cs
   | false=>none
  | _=>none
 | _=>match v.cell with
  | true=>some [v]
  | false=>none
def Kc(cs:List AV)(off:Nat)(τ:Ty):Option AV :=
 match τ with
 | .st s=>match Nat.ble (off+s.size) cs.length with
  | true=>some (.agg ((cs.drop off).take s.size))
  | false=>none
 | _=>cs[off]?
def putCells(cs:List AV)(off:Nat)(new:List AV):Option (List AV) :=
 match Nat.ble (off+new.length) cs.length with
 | true=>some (cs.take off++(new++cs.drop (off+new.length)))
 | false=>none
def TV.part(v:TV)(off:Nat)(τ:Ty):Option TV :=
 match Nat.beq off 0&&decide (v.τ=τ) with
 | true=>some v
 | false=>match v.cells[off]? with
  | some u=>match decide (u.τ=τ) with
   | true=>some u
   | false=>none
  | none=>none
def s9(lk:Nat->Option aB)(τ:Ty):AV->Option AV
 | .cX v=>match decide (v.τ=τ) with
  | true=>some (.aH v)
  | false=>none
 | .ptr id off=>match lk id with
  | some (.box cs)=>Kc cs off τ
  | _=>none
 | .eH id i off=>match lk id with
  | some (.row _ bf xs)=>match TV.part ⟨bf,xs.getD i bf.zero⟩ off τ with
   | some u=>some (.aH u)
   | none=>none
  | _=>none
 | _=>none
def deref(lk:Nat->Option aB)(τ:Ty)(v:AV):Option τ.den :=
 match s9 lk τ v with
 | some u=>Ae lk τ u
 | none=>none
def aV.fu(s:aV)(i:Nat):Nat:=((s.fX.take i).map Ty.size).sum
def zeroCell(τ:Ty):AV :=
 match τ with
 | .slice _ => .nil
 | τ => .aH ⟨τ,τ.zero⟩
def zeroCells(τ:Ty):List AV :=
 match τ with
 | .st s=>s.tA.map zeroCell
 | τ=>[zeroCell τ]
def qa(lk:Nat->Option aB):List (Bool×Ty)->List AV->Option (List Arg)
 | [],[]=>some []
 | (true,τ)::ks,v::vs=>match deref lk τ v with
  | some x=>match qa lk ks vs with
   | some r=>some (.ref ⟨τ,x⟩::r)
   | none=>none
  | none=>none
 | (false,τ)::ks,v::vs=>match Ae lk τ v with
  | some x=>match qa lk ks vs with
   | some r=>some (.val ⟨τ,x⟩::r)
   | none=>none
  | none=>none
 | _,_=>none
def V1(E:Env)(f:FuncId)(eE:List Arg):(ps:List Ty)->(r:Ty)->List Arg->FN ps r
 | [],r,acc=>match E.Pv f (acc++eE) with
  | some (pre,[v])=>match v.Z9 r with
   | some y=>(pre.ok,y)
   | none=>(False,r.zero)
  | _=>(False,r.zero)
 | t::ts,r,acc=>λ x=>V1 E f eE ts r (acc++[.val ⟨t,x⟩])
def uB:(ps:List Ty)->(r:Ty)->FN ps r->List Arg->Option (Prop×r.den)
 | [],_,F,[]=>some F
 | t::ts,r,F, .val a::zs=>match a.Z9 t with
  | some x=>uB ts r (F x) zs
  | none=>none
 | _,_,_,_=>none
def E3(E:Env)(lk:Nat->Option aB):AV->Option FV
 | .dc f cs=>match E.dc f with
  | some k=>match qa lk k.eE cs with
   | some Z9=>some ⟨k.ps,k.r,V1 E f Z9 k.ps k.r []⟩
   | none=>none
  | none=>none
 | .iF v=>some v
 | .fn f=>match E.dc f with
  | some k=>match k.eE with
   | []=>some ⟨k.ps,k.r,V1 E f [] k.ps k.r []⟩
   | _=>none
  | none=>none
 | _=>none
def VK(E:Env)(lk:Nat->Option aB)(T:TypeId)(v:AV):Option Arg :=
 match ah E.ty T with
 | some (τ,_)=>match Ae lk τ v with
  | some x=>some (.val ⟨τ,x⟩)
  | none=>none
 | none=>match ah E.pty T with
  | some τ=>match deref lk τ v with
   | some x=>some (.ref ⟨τ,x⟩)
   | none=>none
  | none=>match E3 E lk v with
   | some q=>some (.dc q)
   | none=>match v with
    | .fn f=>some (.fn f)
    | _=>none
def mC(E:Env)(lk:Nat->Option aB):List TypeId->List AV->Option (List Arg)
 | [],[]=>some []
 | T::Ts,v::vs=>match VK E lk T v with
  | some x=>match mC E lk Ts vs with
   | some r=>some (x::r)
   | none=>none
  | none=>none
 | _,_=>none
def FL:List TV->AV
 | [v] => .aH v
 | vs => .iS (vs.map .aH)
def O(n:Int):Prop := -9223372036854775808<=n/\n<=9223372036854775807
def bT(k:IntKind)(n:Int):Prop :=
 match k with
 | .i64=>O n
 | k=>k.min<=n/\n<=k.max
def ak(n:Int)(len:Nat):Prop:=0<=n/\n<(len:Int)
def cB(l h:Int)(len:Nat):Prop:=0<=l/\l<=h/\h<=(len:Int)
def bG(n m:Int)(b:Nat):Prop:=0<=n/\n<=m/\m * ((b:Int)+1)<=140737488355328
def bc(n b:Nat):Prop:=n * (b+1)<=140737488355328
def arith(op:BinOp)(k:IntKind)(a b:Int):Option (Vc×Int) :=
 match op with
 | .add=>match k with
  | .u64=>some (.none,IntKind.u64.wrap (a+b))
  | k=>some (.some (bT k (a+b)),a+b)
 | .sub=>some (.some (bT k (a - b)),a - b)
 | .mul=>match k with
  | .u64=>some (.none,IntKind.u64.wrap (a * b))
  | k=>some (.some (bT k (a * b)),a * b)
 | .quo=>some (.some (b≠0/\bT k (a.tdiv b)),a.tdiv b)
 | .rem=>some (.some (b≠0/\bT k (a.tmod b)),a.tmod b)
 | .shl=>some (.some (0<=b/\b<k.bits/\bT k (a * 2 ^ b.toNat)),a * 2 ^ b.toNat)
 | .shr=>some (.some (0<=b/\b<k.bits/\bT k (a.fdiv (2 ^ b.toNat))),a.fdiv (2 ^ b.toNat))
 | .and=>some (.some (0<=a/\0<=b/\bT k a/\bT k b),((a.toNat &&& b.toNat:Nat):Int))
 | _=>none
def cmp(op:BinOp)(a b:Int):Option Bool :=
 match op with
 | .eql=>some (decide (a=b))
 | .neq=>some (!decide (a=b))
 | .lss=>some (decide (a<b))
 | .leq=>some (decide (a<=b))
 | .gtr=>some (decide (b<a))
 | .geq=>some (decide (b<=a))
 | _=>none
def a0f(wr:Bool)(op:BinOp)(k:IntKind)(a b:Int):Option (Vc×Int) :=
 match wr with
 | true=>match op with
  | .add=>some (.none,k.wrap (a+b))
  | .sub=>some (.none,k.wrap (a - b))
  | .mul=>some (.none,k.wrap (a * b))
  | op=>arith op k a b
 | false=>arith op k a b
def a3p(tb wr:Bool)(op:BinOp)(u v:AV):Option (Vc×AV) :=
 match u,v with
 | .aH ⟨.int k,a⟩, .aH ⟨.int k',b⟩=>match a0f wr op k a b with
  | some (p,r)=>match op with
   | .shl | .shr=>some (p, .aH ⟨.int k,r⟩)
   | _=>match decide (k=k') with
    | true=>some (p, .aH ⟨.int k,r⟩)
    | false=>none
  | none=>match decide (k=k') with
   | true=>match cmp op a b with
    | some c=>some (.none, .aH ⟨.bool,c⟩)
    | none=>none
   | false=>none
 | .aH ⟨.bool,a⟩, .aH ⟨.bool,b⟩=>match tb with
  | true=>match op with
   | .eql=>some (.none, .aH ⟨.bool,a == b⟩)
   | .neq=>some (.none, .aH ⟨.bool,!(a == b)⟩)
   | _=>none
  | false=>none
 | .aH ⟨.str,a⟩, .aH ⟨.str,b⟩=>match op with
  | .eql=>some (.none, .aH ⟨.bool,decide (a=b)⟩)
  | .neq=>some (.none, .aH ⟨.bool,!decide (a=b)⟩)
  | .add=>some (.some (a.length+b.length<=140737488355328), .aH ⟨.str,a++b⟩)
  | _=>none
 | _,_=>none
def partsOf(E:Env)(s:aV)(cs:List AV):List (Nat×AV)->Option (List AV)
 | []=>some cs
 | (i,v)::r=>match s.fX[i]? with
  | some τ=>match cellsOf τ v with
   | some new=>match putCells cs (s.fu i) new with
    | some dE=>partsOf E s dE r
    | none=>none
   | none=>none
  | none=>none
def tC(τ:Ty):Nat->List (Nat×AV)->Option (List τ.den)
 | _,[]=>some []
 | n,(
    i,v)::r=>match Nat.beq i n with
  | true=>match Ae (λ _=>none) τ v with
   | some x=>match tC τ (n+1) r with
    | some xs=>some (x::xs)
    | none=>none
   | none=>none
  | false=>none
def TV.flat(v:TV):Bool:=v.cells.all λ u=>match u.τ with
 | .slice _=>false
 | .mv _=>false
 | _=>true
def p9(d:Int):Option AV->Option Int
 | none=>some d
 | some (.aH ⟨.int _,n⟩)=>some n
 | _=>none
def te(lk:Nat->Option aB)(id:Nat):Option aB:=match lk id with
 | some (.box cs)=>some (.box cs)
 | _=>none
def J5(E:Env)(lk:Nat->Option aB)(f:FuncId)(Ts:List TypeId)(vs:List AV):Option (Vc×AV×Option aB) :=
 match mC E (te lk) Ts vs with
 | some Z9=>match E.Pv f Z9 with
  | some (pre,res)=>some (pre,FL res,none)
  | none=>none
 | none=>match mC E lk Ts vs with
  | some Z9=>match E.Pv f Z9 with
   | some (pre,res)=>match res.all TV.flat with
    | true=>some (pre,FL res,none)
    | false=>none
   | none=>none
  | none=>none
def Dh(E:Env)(lk:Nat->Option aB)(g:AV)(Ts:List TypeId)(vs:List AV):Option (Vc×AV×Option aB) :=
 match (match mC E (te lk) Ts vs with
  | some Z9=>match E3 E (te lk) g with
   | some q=>match uB q.ps q.r q.F Z9 with
    | some (pre,y)=>some (some pre,FL [⟨q.r,y⟩],none)
    | none=>none
   | none=>none
  | none=>none) with
 | some r=>some r
 | none=>match mC E lk Ts vs with
  | some Z9=>match E3 E lk g with
   | some q=>match uB q.ps q.r q.F Z9 with
    | some (pre,y)=>match TV.flat ⟨q.r,y⟩ with
     | true=>some (some pre,FL [⟨q.r,y⟩],none)
     | false=>none
    | none=>none
   | none=>none
  | none=>none
def AV.a7o:AV->Bool
 | .ep | .iS _ | .dc .. | .iF .. | .sub .. | .eP .. => false
 | _=>true
def a0Q(E:Env)(op:BinOp)(T:TypeId)(u v:AV):Option (Vc×AV) :=
 match ah E.ty T,u,v with
 | some (.slice _,_), .aH ⟨.slice _,xs⟩, .nil=>match op with
  | .eql=>some (.some (1<=xs.length), .aH ⟨.bool,false⟩)
  | .neq=>some (.some (1<=xs.length), .aH ⟨.bool,true⟩)
  | _=>none
 | _,_,_=>none
def Ol(E:Env)(lk:Nat->Option aB)(ev:Operand->AV)(o:Oper):Option (Vc×AV×Option aB) :=
 match o.op with
 | .move x=>some (.none,ev x,none)
 | .assign x=>some (.none,ev x,none)
 | .pick c a b=>match ev c with
  | .aH ⟨.bool,true⟩=>some (.none,ev a,none)
  | .aH ⟨.bool,false⟩=>some (.none,ev b,none)
  | _=>none
 | .alloc T=>match o.dst,ah E.ty T with
  | some d,some (τ,_)=>some (.none, .ptr d 0,some (.box (zeroCells τ)))
  | _,_=>none
 | .box T x=>match o.dst,ah E.ty T with
  | some d,some (τ,_)=>match E.ro.contains d with
   | true=>match Ae (λ _=>none) τ (ev x) with
    | some y=>some (.none, .cX ⟨τ,y⟩,none)
    | none=>none
   | false=>match cellsOf τ (ev x) with
    | some cs=>some (.none, .ptr d 0,some (.box cs))
    | none=>none
  | _,_=>none
 | .build T parts=>match ah E.ty T with
  | some (.st n,_)=>match partsOf E n (zeroCells (.st n)) (parts.toList.map λ p=>(p.1,ev p.2)) with
   | some cs=>some (.none, .agg cs,none)
   | none=>none
  | _=>none
 | .buildSlice T len parts=>match o.dst,ah E.ty T with
  | some d,some (.slice τ,_,e)=>match Nat.beq parts.size len&&Nat.ble len 1000 with
   | true=>match tC τ 0 (parts.toList.map λ p=>(p.1,ev p.2)) with
    | some xs=>match E.ro.contains d with
     | true=>some (.none, .aH ⟨.slice τ,xs⟩,none)
     | false=>some (.none, .row d,some (.row e τ xs))
    | none=>none
   | false=>none
  | _,_=>none
 | .load T a=>match ah E.ty T with
  | some (τ,_)=>match s9 lk τ (ev a) with
   | some v=>some (.none,v,none)
   | none=>none
  | none=>none
 | .nilCheck x=>match ev x with
  | .cX v=>some (.none, .cX v,none)
  | .ptr id off=>some (.none, .ptr id off,none)
  | .eH id i off=>some (.none, .eH id i off,none)
  | _=>none
 | .fieldAddr T x i=>match ah E.ty T with
  | some (.st n,_)=>match ev x with
   | .cX v=>match v.Z9 (.st n) with
    | some y=>match (n.fields y)[i]? with
     | some f=>some (.none, .cX f,none)
     | none=>none
    | none=>none
   | .ptr id off=>match Nat.blt i n.fX.length with
    | true=>some (.none, .ptr id (off+n.fu i),none)
    | false=>none
   | .eH id k off=>match Nat.blt i n.fX.length with
    | true=>some (.none, .eH id k (off+n.fu i),none)
    | false=>none
   | _=>none
  | _=>none
 | .field T x i=>match ah E.ty T with
  | some (.st n,_)=>match ev x with
   | .aH v=>match v.Z9 (.st n) with
    | some y=>match (n.fields y)[i]? with
     | some f=>some (.none, .aH f,none)
     | none=>none
    | none=>none
   | .agg cs=>match n.fX[i]? with
    | some τ=>match Kc cs (n.fu i) τ with
     | some v=>some (.none,v,none)
     | none=>none
    | none=>none
   | _=>none
  | _=>none
 | .indexAddr T x ix=>match ah E.ty T with
  | some (
      .slice τ,_)=>match ev ix with
   | .aH ⟨.int _,n⟩=>match ev x with
    | .aH v=>match v.Z9 (.slice τ) with
     | some xs=>some (.some (ak n xs.length), .cX ⟨τ,xs.getD n.toNat τ.zero⟩,none)
     | none=>none
    | .row id=>match lk id with
     | some (.row _ bf xs)=>match decide (bf=τ) with
      | true=>some (.some (ak n xs.length), .eH id n.toNat 0,none)
      | false=>none
     | _=>none
    | _=>none
   | _=>none
  | _=>none
 | .index T x ix=>match ah E.ty T with
  | some (.str,_)=>match ev ix with
   | .aH ⟨.int _,n⟩=>match ev x with
    | .aH ⟨.str,xs⟩=>some (.some (ak n xs.length), .aH ⟨.int .u8,((xs.getD n.toNat 0).toNat:Int)⟩,none)
    | _=>none
   | _=>none
  | _=>none
 | .binOp op T x y _=>match a0Q E op T (ev x) (ev y) with
  | some (p,v)=>some (p,v,none)
  | none=>match a3p (match ah E.ty T with
   | some (.bool,_)=>true
   | _=>false) (match o.dst with
   | some d=>E.wr.contains d
   | none=>false) op (ev x) (ev y) with
   | some (p,v)=>some (p,v,none)
   | none=>none
 | .unOp op _ x=>match op,ev x with
  | .not, .aH ⟨.bool,b⟩=>some (.none, .aH ⟨.bool,!b⟩,none)
  | .neg, .aH ⟨.int k,n⟩=>some (.some (bT k (-n)), .aH ⟨.int k,-n⟩,none)
  | _,_=>none
 | .convert src dst x=>match ah E.ty src,ah E.ty dst with
  | some (.int _,_),some (.int k,_)=>match ev x with
   | .aH ⟨.int _,n⟩=>some (.some (bT k n), .aH ⟨.int k,n⟩,none)
   | _=>none
  | _,_=>none
 | .slice T x lo hi mx=>match ah E.ty T,mx with
  | some (.slice τ,_),none=>match ev x with
   | .aH v=>match v.Z9 (.slice τ) with
    | some xs=>match p9 0 (lo.map ev),p9 (xs.length:Int) (hi.map ev) with
     | some l,some h=>some (.some (cB l h xs.length), .aH ⟨.slice τ,(xs.take h.toNat).drop l.toNat⟩,none)
     | _,_=>none
    | none=>none
   | _=>none
  | some (.str,_),none=>match ev x with
   | .aH ⟨.str,xs⟩=>match p9 0 (lo.map ev),p9 (xs.length:Int) (hi.map ev) with
    | some l,some h=>some (.some (cB l h xs.length), .aH ⟨.str,(xs.take h.toNat).drop l.toNat⟩,none)
    | _,_=>none
   | _=>none
  | _,_=>none
 | .extract t i=>match ev t with
  | .iS vs=>match vs[i]? with
   | some v=>some (.none,v,none)
   | none=>none
  | _=>none
 | .makeSlice T l c=>match o.dst,ah E.ty T with
  | some d,some (.slice τ,b,e)=>match ev l,ev c with
   | .aH ⟨.int .i64,n⟩, .aH ⟨.int .i64,m⟩=>some (.some (bG n m b), .row d,some (.row e τ (List.replicate n.toNat τ.zero)))
   | _,_=>none
  | _,_=>none
 | .call c=>match c.callee with
  | .builtin .len=>match c.argTypes.toList,c.args.toList.map ev with
   | [T],[v]=>match ah E.ty T with
    | some (.slice _,_)=>match v with
     | .nil=>some (.none, .aH ⟨.int .i64,(0:Int)⟩,none)
     | .aH ⟨.slice _,xs⟩=>some (.none, .aH ⟨.int .i64,(xs.length:Int)⟩,none)
     | .row id=>match lk id with
      | some (.row _ _ xs)=>some (.none, .aH ⟨.int .i64,(xs.length:Int)⟩,none)
      | _=>none
     | _=>none
    | some (.str,_)=>match v with
     | .aH ⟨.str,xs⟩=>some (.none, .aH ⟨.int .i64,(xs.length:Int)⟩,none)
     | _=>none
    | none=>match v,ah E.mty T with
     | .mp _,some _=>none
     | _,_=>none
    | _=>none
   | _,_=>none
  | .builtin .append=>match o.dst,c.argTypes.toList with
   | some d,[T,T']=>match Nat.beq T T',ah E.ty T with
    | true,some (.slice τ,b,e)=>match c.args.toList.map ev with
     | [.nil,y]=>match jN (QP lk) (.slice τ) y with
      | some ys=>some (.some (bc ys.length b), .row d,some (.row e τ ys))
      | none=>none
     | _=>none
    | _,_=>none
   | _,_=>none
  | .builtin .max=>match c.args.toList.map ev with
   | [.aH ⟨.int k,m⟩, .aH ⟨.int k',n⟩]=>match decide (k'=k) with
    | true=>some (.none, .aH ⟨.int k,(max m n:Int)⟩,none)
    | false=>none
   | _=>none
  | .value (.func f)=>J5 E lk f c.argTypes.toList (c.args.toList.map ev)
  | .value (.tmp t)=>match ev (.tmp t) with
   | .fn f=>J5 E lk f c.argTypes.toList (c.args.toList.map ev)
   | .dc f cs=>Dh E lk (.dc f cs) c.argTypes.toList (c.args.toList.map ev)
   | .iF v=>Dh E lk (.iF v) c.argTypes.toList (c.args.toList.map ev)
   | _=>none
  | _=>none
 | .makeMap _ none=>none
 | .lookup _ _ _ _=>none
 | .makeFunc fn first captured=>match fn,first.toList,(captured.toList.map ev).all AV.a7o with
  | .func f,[],true=>match captured.toList.map ev with
   | []=>some (.none, .fn f,none)
   | cs=>some (.none, .dc f cs,none)
  | _,_,_=>none
 | _=>none
mutual
def AV.refs(id:Nat):AV->Bool
 | .ptr i _=>Nat.beq i id
 | .row i=>Nat.beq i id
 | .eH i _ _=>Nat.beq i id
 | .av i=>Nat.beq i id
 | .sub i _ _ _=>Nat.beq i id
 | .eP i _ _ _=>Nat.beq i id
 | .mp i=>Nat.beq i id
 | .agg cs=>AV.gl id cs
 | .iS cs=>AV.gl id cs
 | .dc _ cs=>AV.gl id cs
 | _=>false
def AV.gl(id:Nat):List AV->Bool
 | []=>false
 | v::r=>match AV.refs id v with
  | true=>true
  | false=>AV.gl id r
end
def AV.kill(id:Nat)(v:AV):AV:=match v.refs id with
 | true => .any
 | false=>v
def aB.kill(id:Nat):aB->aB
 | .box cs => .box (cs.map (AV.kill id))
 | o=>o
def aj.cq(s:aj)(id:Nat):aj :=
 { aC:=s.aC.map (AV.kill id),aJ:=s.aJ.map λ p=>(p.1,p.2.kill id) }
def bS(id:Nat):List (Nat×aB)->List (Nat×aB)
 | []=>[]
 | (k,o)::r=>match Nat.beq k id with
  | true=>bS id r
  | false=>(k,o)::bS id r
def aj.put(s:aj)(d:Option Nat)(v:AV):aj :=
 match d with
 | some d=>{ s with aC:=s.aC.set d v }
 | none=>s
def aj.lay(s:aj)(d:Option Nat)(v:AV)(o:Option aB):aj :=
 match o,d with
 | some o,some d =>
  let s':=s.cq d;{ aC:=s'.aC.set d v,aJ:=(d,o.kill d)::bS d s'.aJ }
 | _,d=>s.put d v
mutual
def AV.rows:AV->List Nat
 | .row i=>[i]
 | .agg cs=>AV.a4w cs
 | _=>[]
def AV.a4w:List AV->List Nat
 | []=>[]
 | v::r=>AV.rows v++AV.a4w r
end
def Zb(s:aj)(v:AV):List Nat :=
 match v with
 | .ptr id _=>match s.ah id with
  | some (.box cs)=>AV.a4w cs
  | _=>[]
 | v=>v.rows
def a7c(s:aj)(v:AV):List Nat :=
 match v with
 | .dc _ cs=>cs.flatMap (Zb s)
 | v=>Zb s v
def kY(E:Env)(s:aj)(o:Oper):List Nat :=
 match (match o.dst with
  | some d=>E.own.contains d
  | none=>false) with
 | true=>[]
 | false=>match o.op with
 | .buildSlice _ _ parts=>parts.toList.flatMap λ p=>(s.eval p.2).rows
 | .slice _ x _ _ _=>(s.eval x).rows
 | .store _ a x=>match s.eval a with
  | .eH _ _ _=>(s.eval x).rows
  | _=>[]
 | .call c=>match c.callee with
  | .value _=>match E.Pv (match c.callee with
    | .value (.func f)=>f
    | .value (.tmp t)=>match s.eval (.tmp t) with
     | .fn f=>f
     | _=>0
    | _=>0) (match mC E s.ah c.argTypes.toList (c.args.toList.map s.eval) with
     | some Z9=>Z9
     | none=>[]) with
   | some (_,res)=>match res.all TV.flat with
    | true=>[]
    | false=>c.args.toList.flatMap λ x=>a7c s (s.eval x)
   | none=>[]
  | _=>[]
 | _=>[]
mutual
def AV.KV(id:Nat)(u:AV):AV->AV
 | .row i=>match Nat.beq i id with
  | true=>u
  | false => .row i
 | .eH i k off=>match Nat.beq i id with
  | true => .any
  | false => .eH i k off
 | .agg cs => .agg (AV.Wp id u cs)
 | .iS cs => .iS (AV.Wp id u cs)
 | .dc f cs => .dc f (AV.Wp id u cs)
 | v=>v
def AV.Wp(id:Nat)(u:AV):List AV->List AV
 | []=>[]
 | v::r=>AV.KV id u v::AV.Wp id u r
end
def aB.KV(id:Nat)(u:AV):aB->aB
 | .box cs => .box (AV.Wp id u cs)
 | o=>o
mutual
def AV.Hn(id:Nat)(u:AV):AV->AV
 | .av i=>match Nat.beq i id with
  | true=>u
  | false => .av i
 | .sub i k off z=>match Nat.beq i id with
  | true => .any
  | false => .sub i k off z
 | .eP i k off z=>match Nat.beq i id with
  | true => .any
  | false => .eP i k off z
 | .agg cs => .agg (AV.Wo id u cs)
 | .iS cs => .iS (AV.Wo id u cs)
 | .dc f cs => .dc f (AV.Wo id u cs)
 | v=>v
def AV.Wo(id:Nat)(u:AV):List AV->List AV
 | []=>[]
 | v::r=>AV.Hn id u v::AV.Wo id u r
end
def aB.Hn(id:Nat)(u:AV):aB->aB
 | .box cs => .box (AV.Wo id u cs)
 | o=>o
def aj.freeze(s:aj)(id:Nat):aj :=
 match s.ah id with
 | some (.row _ τ xs) =>
  { aC:=AV.Wp id (.aH ⟨.slice τ,xs⟩) s.aC,aJ:=(bS id s.aJ).map λ p=>(p.1,p.2.KV id (.aH ⟨.slice τ,xs⟩)) }
 | some (.av τ xs) =>
  { aC:=AV.Wo id (.aH ⟨.slice τ,xs⟩) s.aC,aJ:=(bS id s.aJ).map λ p=>(p.1,p.2.Hn id (.aH ⟨.slice τ,xs⟩)) }
 | _=>s
def Vn(_:Env)(_:aj)(_:Option Nat)(_:TypeId)(_ _ _:Operand):Option (Vc×aj):=none
def eop(E:Env)(s:aj)(o:Oper):Option (Vc×aj) :=
 match o.op with
 | .mapUpdate T m k x=>Vn E s o.dst T m k x
 | .insert T m k x=>Vn E s o.dst T m k x
 | .store T a x=>match ah E.ty T with
  | some (
      τ,_)=>match s.eval a with
   | .ptr id off=>match s.ah id with
    | some (.box cs)=>match cellsOf τ (s.eval x) with
     | some new=>match putCells cs off new with
      | some dE=>some (.none,{ s with aJ:=(id, .box dE)::bS id s.aJ }.put o.dst .any)
      | none=>none
     | none=>none
    | _=>none
   | .eH id i 0=>match s.ah id with
    | some (.row e' bf xs)=>match decide (bf=τ),Ae (λ _=>none) bf (s.eval x) with
     | true,some x=>some (.none,{ s with aJ:=(id, .row e' bf (xs.set i x))::bS id s.aJ }.put o.dst .any)
     | _,_=>none
    | _=>none
   | _=>none
  | none=>none
 | .call c=>match c.callee with
  | .builtin .append=>match o.dst,c.argTypes.toList with
   | some d,[T,T']=>match Nat.beq T T',ah E.ty T with
    | true,some (.slice τ,b,e)=>match c.args.toList.map s.eval with
     | [.row id,y]=>match s.ah id,jN (QP s.ah) (.slice τ) y with
      | some (.row e' bf xs),some ys=>match Nat.beq e' e,TV.Z9 (.slice τ) ⟨.slice bf,xs⟩ with
       | true,some cS =>
        let s':=s.cq id;some (.some (bc (cS.length+ys.length) b),{ aC:=s'.aC.set d (.row id),aJ:=(id, .row e τ (cS++ys))::bS id s'.aJ })
       | _,_=>none
      | _,_=>none
     | _=>none
    | _,_=>none
   | _,_=>none
  | _=>none
 | _=>none
def nodupB:List Nat->Bool
 | []=>true
 | a::r=>match r.contains a with
  | true=>false
  | false=>nodupB r
def cx:Option aB->Bool
 | some (.av ..)=>true
 | _=>false
def iQ(id:Nat):TV->AV
 | ⟨.slice _,_⟩ => .av id
 | ⟨.mv _,_⟩ => .any
 | u => .aH u
def fJ(id:Nat):TV->List (Nat×aB)
 | ⟨.slice τ,xs⟩=>[(id, .av τ xs)]
 | _=>[]
def cb:Nat->List TV->List AV
 | _,[]=>[]
 | id,u::r=>iQ id u::cb (id+1) r
def bX:Nat->List TV->List (Nat×aB)
 | _,[]=>[]
 | id,u::r=>fJ id u++bX (id+1) r
def eZ(id:Nat):TV->AV
 | ⟨.st s,y⟩ => .agg (cb id (s.cells y))
 | v=>iQ id v
def QW:Nat->List TV->List AV
 | _,[]=>[]
 | id,v::r=>eZ id v::QW (id+20) r
def bx:Nat->List TV->List (Nat×aB)
 | _,[]=>[]
 | id,v::r=>bX id v.cells++bx (id+20) r
def kB(id:Nat):List TV->AV
 | [v]=>eZ id v
 | vs => .iS (QW id vs)
def Ty.agg:Ty->Bool
 | .st _=>true
 | _=>false
def Ty.ur:Ty->Bool
 | .int _ | .bool | .str | .ptr=>true
 | _=>false
def Ty.key:Ty->Bool
 | .int _ | .bool | .str=>true
 | _=>false
def Ty.plain:Ty->Bool
 | .st s=>s.tA.all Ty.ur
 | .slice _=>false
 | .mv _=>false
 | _=>true
def ea(lk:Nat->Option aB)(τ:Ty):AV->Option (τ.den×List Nat)
 | .aH v=>match τ.ur,v.Z9 τ with
  | true,some y=>some (y,[])
  | _,_=>none
 | .nil=>match τ with
  | .slice _=>some ([],[])
  | _=>none
 | .av id=>match lk id with
  | some (.av bf xs)=>match TV.Z9 τ ⟨.slice bf,xs⟩ with
   | some y=>some (y,[id])
   | none=>none
  | _=>none
 | .row id=>match lk id with
  | some (.row _ bf xs)=>match bf.plain,TV.Z9 τ ⟨.slice bf,xs⟩ with
   | true,some y=>some (y,[id])
   | _,_=>none
  | _=>none
 | _=>none
def tg(lk:Nat->Option aB):List AV->List Ty->Option (List TV×List Nat)
 | [],[]=>some ([],[])
 | c::cs,t::ts=>match ea lk t c with
  | some (x,i)=>match tg lk cs ts with
   | some (r,j)=>some (⟨t,x⟩::r,i++j)
   | none=>none
  | none=>none
 | _,_=>none
def rh(lk:Nat->Option aB)(τ:Ty):AV->Option (τ.den×List Nat)
 | .agg cs=>match τ with
  | .st s=>match tg lk cs s.tA with
   | some (l,ids)=>match s.fS l with
    | some y=>some (y,ids)
    | none=>none
   | none=>none
  | _=>none
 | v=>ea lk τ v
mutual
def AV.Rg:AV->Bool
 | .sub .. => true
 | .agg cs=>AV.pc cs
 | .iS cs=>AV.pc cs
 | .dc _ cs=>AV.pc cs
 | _=>false
def AV.pc:List AV->Bool
 | []=>false
 | v::r=>match AV.Rg v with
  | true=>true
  | false=>AV.pc r
end
def AV.dh(v:AV):AV:=match v.Rg with
 | true => .any
 | false=>v
def aB.dh:aB->aB
 | .box cs => .box (cs.map AV.dh)
 | o=>o
def aj.bU(s:aj):aj:={ aC:=s.aC.map AV.dh,aJ:=s.aJ.map λ p=>(p.1,p.2.dh) }
def aj.dn(s:aj)(id:Nat)(τ:Ty)(xs:List τ.den):aj :=
 { s with aJ:=(id, .av τ xs)::bS id s.aJ }
def aj.gone(s:aj)(id:Nat):aj :=
 let s':=s.cq id
 { s' with aJ:=bS id s'.aJ }
def aj.gN(s:aj):List AV->List TV->aj
 | .av id::cs,⟨.slice τ,xs⟩::us=>(s.dn id τ xs).gN cs us
 | _::cs,_::us=>s.gN cs us
 | _,_=>s
def kQ(τ:Ty)(x:τ.den)(off:Nat)(u:TV):Option τ.den :=
 match τ with
 | .st s=>match (s.cells x)[off]? with
  | some v=>match decide (v.τ=u.τ) with
   | true=>s.fS ((s.cells x).set off u)
   | false=>none
  | none=>none
 | τ=>match Nat.beq off 0 with
  | true=>u.Z9 τ
  | false=>none
def Ty.full:Ty->Ty
 | .mv t => .slice t
 | t=>t
def Ty.b0Z:Ty->Ty->Bool
 | .st p, .st q=>decide (p.tA.map Ty.full=q.tA)
 | _,_=>false
def Ty.Vp:Ty->Bool
 | .mv _=>true
 | t=>t.ur
def a3F:TV->TV
 | ⟨.mv t,o⟩=>⟨.slice t,Option.getD (α:=List t.den) o []⟩
 | u=>u
def a0o:TV->TV
 | ⟨.mv t,_⟩=>⟨.mv t,(none:Option (List t.den))⟩
 | u=>u
def CO:List TV->Prop
 | []=>True
 | ⟨.mv t,o⟩::r=>Option.isSome (α:=List t.den) o=true/\CO r
 | _::r=>CO r
def a5n(s:aj)(d:Nat)(m:CI)(vs:List AV):Option (Vc×aj):=match vs with
 | [.av id, .aH ⟨.int .i64,n⟩]=>match s.ah id with
  | some (.av τ xs)=>match TV.Z9 m.τ ⟨.slice τ,xs⟩ with
   | some x=>match TV.Z9 (.slice τ) ⟨m.τ,(m.g x n).2.1⟩ with
    | some cS=>some ((m.g x n).1,(s.bU.dn id τ cS).put (some d) (.aH ⟨.int .i64,(m.g x n).2.2⟩))
    | none=>none
   | none=>none
  | _=>none
 | [.sub id i off sz, .aH ⟨.int .i64,n⟩]=>match s.ah id with
  | some (.av τ xs)=>match TV.part ⟨τ,xs.getD i τ.zero⟩ off m.τ with
   | some u=>match u.Z9 m.τ,Nat.beq τ.size sz&&(!m.τ.agg&&Nat.blt off τ.size) with
    | some x,true=>match kQ τ (xs.getD i τ.zero) off ⟨m.τ,(m.g x n).2.1⟩ with
     | some y=>some ((m.g x n).1,(s.bU.dn id τ (xs.set i y)).put (some d) (.aH ⟨.int .i64,(m.g x n).2.2⟩))
     | none=>none
    | _,_=>none
   | none=>none
  | _=>none
 | [.agg cs, .aH ⟨.int .i64,n⟩]=>match rh s.ah m.τ (.agg cs) with
  | some (x,ids)=>match nodupB ids&&ids.all λ id=>cx (s.ah id) with
   | true=>some ((m.g x n).1,(s.bU.gN cs (TV.cells ⟨m.τ,(m.g x n).2.1⟩)).put (some d) (.aH ⟨.int .i64,(m.g x n).2.2⟩))
   | false=>none
  | none=>none
 | _=>none
def a3z:Ty->Bool
 | .slice _=>true
 | t=>t.ur
def RQ(id i sz:Nat):Nat->List TV->List AV
 | _,[]=>[]
 | j,u::us=>(match u.τ.ur with
  | true => .aH u
  | false => .sub id i j sz)::RQ id i sz (j+1) us
def a2g(s:aj)(d:Option Nat)(id i off sz:Nat)(τ bf:Ty)(xs:List bf.den):Option (Vc×aj):=match τ with
 | .st q=>match Nat.beq q.size sz&&(Nat.beq off 0&&q.tA.all a3z),TV.Z9 (.st q) ⟨bf,xs.getD i bf.zero⟩ with
  | true,some y=>some (.none,s.put d (.agg (RQ id i sz 0 (q.cells y))))
  | _,_=>none
 | _=>none
def oop(E:Env)(s:aj)(o:Oper):Option (Vc×aj) :=
 match o.op with
 | .indexAddr T x ix=>match ah E.ty T with
  | some (.slice τ,_)=>match s.eval ix,s.eval x with
   | .aH ⟨.int _,n⟩, .av id=>match s.ah id with
    | some (.av bf xs)=>match decide (bf=τ)||bf.b0Z τ with
     | true=>some (.some (ak n xs.length),s.put o.dst (.eP id n.toNat 0 τ.size))
     | false=>none
    | _=>none
   | _,_=>none
  | _=>none
 | .fieldAddr T x i=>match ah E.ty T with
  | some (.st n,_)=>match s.eval x with
   | .eP id k off sz=>match Nat.blt i n.fX.length with
    | true=>some (.none,s.put o.dst (.eP id k (off+n.fu i) sz))
    | false=>none
   | _=>none
  | _=>none
 | .load T ad=>match ah E.ty T with
  | some (
      τ,_)=>match s.eval ad with
   | .eP id i off sz=>match s.ah id with
    | some (.av bf xs)=>match TV.part ⟨bf,xs.getD i bf.zero⟩ off τ,Nat.beq bf.size sz&&(!τ.agg&&Nat.blt off bf.size) with
     | some u,true=>match τ.ur with
      | true=>some (.none,s.put o.dst (.aH u))
      | false=>some (.none,s.put o.dst (.sub id i off sz))
     | _,_=>a2g s o.dst id i off sz τ bf xs
    | _=>none
   | _=>none
  | none=>none
 | .store T ad x=>match ah E.ty T with
  | some (
      τ,_)=>match s.eval ad with
   | .eP id i off sz=>match s.ah id with
    | some (
        .av bf xs)=>match Nat.beq bf.size sz&&Nat.blt off bf.size with
     | true=>match τ.ur with
      | true=>match ea (λ _=>none) τ (s.eval x) with
       | some (u,_)=>match TV.part ⟨bf,xs.getD i bf.zero⟩ off τ,kQ bf (xs.getD i bf.zero) off ⟨τ,u⟩ with
        | some _,some y=>some (.none,(s.bU.dn id bf (xs.set i y)).put o.dst .any)
        | _,_=>none
       | none=>none
      | false=>match Nat.beq off 0,rh s.ah τ (s.eval x) with
       | true,some (y,ids)=>match nodupB (id::ids),TV.Z9 bf ⟨τ,y⟩ with
        | true,some y'=>some (.none,((ids.foldl aj.gone s).bU.dn id bf (xs.set i y')).put o.dst .any)
        | _,_=>none
       | _,_=>none
     | false=>none
    | _=>none
   | _=>none
  | none=>none
 | .makeSlice T l cc=>match o.dst,ah E.ty T with
  | some d,some (.slice τ,b,_)=>match E.own.contains d&&Nat.blt d 50 with
   | true=>match s.eval l,s.eval cc with
    | .aH ⟨.int .i64,n⟩, .aH ⟨.int .i64,m⟩=>some (.some (bG n m b),{ aC:=(s.gone d).aC.set d (.av d),aJ:=(d, .av τ (List.replicate n.toNat τ.zero))::(s.gone d).aJ })
    | _,_=>none
   | false=>none
  | _,_=>none
 | .call c=>match c.callee with
  | .builtin .len=>match c.argTypes.toList,c.args.toList.map s.eval with
   | [T],[.av id]=>match ah E.ty T,s.ah id with
    | some (.slice _,_),some (.av _ xs)=>some (.none,s.put o.dst (.aH ⟨.int .i64,(xs.length:Int)⟩))
    | _,_=>none
   | _,_=>none
  | .value (
       .func f)=>match o.dst with
   | some d=>match E.own.contains d with
    | true=>match E.mark f with
     | some m=>a5n s d m (c.args.toList.map s.eval)
     | none=>match mC E s.ah c.argTypes.toList (c.args.toList.map s.eval) with
      | some Z9=>match E.Mg f Z9 with
       | some (pre,res)=>match ((bx (100 * (d+1)) res).all λ p=>(s.ah p.1).isNone)&&nodupB ((bx (100 * (d+1)) res).map (·.1)) with
        | true=>some (pre,{ aC:=s.aC.set d (kB (100 * (d+1)) res),aJ:=bx (100 * (d+1)) res++s.aJ })
        | false=>none
       | none=>none
      | none=>none
    | false=>none
   | none=>none
  | _=>none
 | _=>none
def bV(d:Nat):Nat:=100 * (d+1)
def JU(lk:Nat->Option aB)(τ:Ty):Nat->List (Nat×AV)->Option (List τ.den×List Nat)
 | _,[]=>some ([],[])
 | n,(
    i,v)::r=>match Nat.beq i n with
  | true=>match rh lk τ v with
   | some (x,ids)=>match JU lk τ (n+1) r with
    | some (xs,js)=>some (x::xs,ids++js)
    | none=>none
   | none=>none
  | false=>none
def aj.tn(s:aj)(d:Nat)(τ:Ty)(xs:List τ.den):aj :=
 { aC:=s.aC.set d (.av (bV d)),aJ:=(bV d, .av τ xs)::s.aJ }
def gS(E:Env)(lk:Nat->Option aB):List Bool->List TypeId->List AV->Option (List (Option TV)×List Nat)
 | [],[],[]=>some ([],[])
 | true::fl,T::Ts,v::vs=>match ah E.ty T with
  | some (τ,_)=>match rh lk τ v with
   | some (x,i)=>match gS E lk fl Ts vs with
    | some (r,j)=>some (some ⟨τ,x⟩::r,i++j)
    | none=>none
   | none=>none
  | none=>none
 | false::fl,_::Ts,_::vs=>match gS E lk fl Ts vs with
  | some (r,j)=>some (none::r,j)
  | none=>none
 | _,_,_=>none
def fD(E:Env)(lk:Nat->Option aB):List (Option TV)->List TypeId->List AV->Option (List Arg)
 | [],[],[]=>some []
 | some x::r,_::Ts,_::vs=>match fD E lk r Ts vs with
  | some Z9=>some (.own x::Z9)
  | none=>none
 | none::r,T::Ts,v::vs=>match VK E lk T v with
  | some x=>match x.Oz,fD E lk r Ts vs with
   | true,some Z9=>some (x::Z9)
   | _,_=>none
  | none=>none
 | _,_,_=>none
def bop(E:Env)(s:aj)(o:Oper):Option (Vc×aj) :=
 match o.dst with
 | some d=>match E.own.contains d with
  | true=>match o.op with
   | .buildSlice T len parts=>match ah E.ty T with
    | some (.slice τ,_)=>match Nat.beq parts.size len&&Nat.ble len 1000 with
     | true=>match JU s.ah τ 0 (parts.toList.map λ p=>(p.1,s.eval p.2)) with
      | some (xs,ids)=>match nodupB ids,(ids.foldl aj.gone s).ah (bV d) with
       | true,none=>some (.none,(ids.foldl aj.gone s).tn d τ xs)
       | _,_=>none
      | none=>none
     | false=>none
    | _=>none
   | .load T ad=>match ah E.ty T,s.eval ad with
    | some (.st q,_), .eP id i 0 sz=>match s.ah id with
     | some (.av (.st p) xs)=>match Nat.beq p.size sz&&p.tA.all Ty.Vp,p.fS ((p.cells (xs.getD i (Ty.zero (.st p)))).map a0o),q.fS ((p.cells (xs.getD i (Ty.zero (.st p)))).map a3F) with
      | true,some y,some z=>match ((bX (bV d) (q.cells z)).all λ e=>(s.ah e.1).isNone)&&nodupB ((bX (bV d) (q.cells z)).map (·.1)) with
       | true=>some (.some (CO (p.cells (xs.getD i (Ty.zero (.st p))))),{ aC:=s.bU.aC.set d (eZ (bV d) ⟨.st q,z⟩),aJ:=bX (bV d) (q.cells z)++(s.bU.dn id (.st p) (xs.set i y)).aJ })
       | false=>none
      | _,_,_=>none
     | _=>none
    | _,_=>none
   | .call c=>match c.callee with
    | .builtin .append=>match c.argTypes.toList with
     | [T,T']=>match Nat.beq T T',ah E.ty T with
      | true,some (.slice τ,b,_)=>match c.args.toList.map s.eval with
       | [x,y]=>match ea s.ah (.slice τ) x,ea s.ah (.slice τ) y with
        | some (xs,i),some (ys,j)=>match nodupB (i++j),((i++j).foldl aj.gone s).ah (bV d) with
         | true,none=>some (.some (bc (xs.length+ys.length) b),((i++j).foldl aj.gone s).tn d τ (xs++ys))
         | _,_=>none
        | _,_=>none
       | _=>none
      | _,_=>none
     | _=>none
    | .value (
         .func f)=>match E.tk f with
     | []=>none
     | fl=>match gS E s.ah fl c.argTypes.toList (c.args.toList.map s.eval) with
      | some (own,ids)=>match nodupB ids,fD E (ids.foldl aj.gone s).ah own c.argTypes.toList (c.args.toList.map (ids.foldl aj.gone s).eval) with
       | true,some Z9=>match E.Mg f Z9 with
        | some (pre,res)=>match ((bx (bV d) res).all λ p=>((ids.foldl aj.gone s).ah p.1).isNone)&&nodupB ((bx (bV d) res).map (·.1)) with
         | true=>some (pre,{ aC:=(ids.foldl aj.gone s).aC.set d (kB (bV d) res),aJ:=bx (bV d) res++(ids.foldl aj.gone s).aJ })
         | false=>none
        | none=>none
       | _,_=>none
      | none=>none
    | _=>none
   | _=>none
  | false=>none
 | none=>none
def jt:List (Option Nat)->List AV->List (Nat×Nat)->Option (List (Nat×Nat))
 | [],[],m=>some m
 | some k::fl,v::vs,m=>match v with
  | .ptr id 0=>match ah m k with
   | some i=>match Nat.beq i id with
    | true=>jt fl vs m
    | false=>none
   | none=>jt fl vs ((k,id)::m)
  | _=>none
 | none::fl,_::vs,m=>jt fl vs m
 | _,_,_=>none
def df(lk:Nat->Option aB):List CK->List AV->List (Nat×Nat)->Option (List TV×List Nat×List (Nat×Nat))
 | [],[],m=>some ([],[],m)
 | .d τ::ks,v::vs,m=>match jN (λ _=>none) τ v,τ.agg with
  | some x,false=>match df lk ks vs m with
   | some (ds,ids,m)=>some (⟨τ,x⟩::ds,ids,m)
   | none=>none
  | _,_=>none
 | .o τ::ks,v::vs,m=>match ea lk τ v,τ.agg with
  | some (x,i),false=>match df lk ks vs m with
   | some (ds,ids,m)=>some (⟨τ,x⟩::ds,i++ids,m)
   | none=>none
  | _,_=>none
 | .p j::ks,v::vs,m=>match v with
  | .ptr id 0=>match ah m j with
   | some i=>match Nat.beq i id with
    | true=>df lk ks vs m
    | false=>none
   | none=>df lk ks vs ((j,id)::m)
  | _=>none
 | _,_,_=>none
def je(lk:Nat->Option aB):List (List CK)->Nat->List (Nat×Nat)->Option (List (List TV)×List Nat×List (Nat×Nat))
 | [],_,m=>some ([],[],m)
 | ks::sh,k,m=>match ah m k with
  | some id=>match lk id with
   | some (.box cs)=>match df lk ks cs m with
    | some (ds,i,m)=>match je lk sh (k+1) m with
     | some (bN,ids,m)=>some (ds::bN,i++ids,m)
     | none=>none
    | none=>none
   | _=>none
  | none=>none
def a0U(lk:Nat->Option aB)(ids:List Nat)(id:Nat):Option aB:=match ids.contains id with
 | true=>none
 | false=>match lk id with
  | some (.box cs)=>some (.box cs)
  | _=>none
def PH(sh:List (List CK)):Bool:=sh.all λ ks=>ks.all λ k=>match k with
 | .d (.slice _)=>false
 | .d (.mv _)=>false
 | _=>true
def sLk(sh:List (List CK))(lk:Nat->Option aB)(ids:List Nat)(id:Nat):Option aB:=match PH sh with
 | true=>match ids.contains id with
  | true=>none
  | false=>lk id
 | false=>a0U lk ids id
def rb(E:Env)(lk:Nat->Option aB):List (Option Nat)->List TypeId->List AV->Option (List Arg)
 | [],[],[]=>some []
 | some k::fl,_::Ts,_::vs=>match rb E lk fl Ts vs with
  | some r=>some (.box k::r)
  | none=>none
 | none::fl,T::Ts,v::vs=>match VK E lk T v with
  | some x=>match rb E lk fl Ts vs with
   | some r=>some (x::r)
   | none=>none
  | none=>none
 | _,_,_=>none
def cn(m:List (Nat×Nat)):List CK->List AV->List TV->Nat->Option (List AV×List (Nat×aB)×Nat)
 | [],[],[],n=>some ([],[],n)
 | .d τ::ks,_::cs,v::ds,n=>match decide (v.τ=τ) with
  | true=>match cn m ks cs ds n with
   | some (r,os,n)=>some (.aH v::r,os,n)
   | none=>none
  | false=>none
 | .o τ::ks,_::cs,v::ds,n=>match decide (v.τ=τ) with
  | true=>match cn m ks cs ds (n+1) with
   | some (r,os,n')=>some (iQ n v::r,fJ n v++os,n')
   | none=>none
  | false=>none
 | .p j::ks,c::cs,ds,n=>match c with
  | .ptr id 0=>match ah m j with
   | some i=>match Nat.beq i id,cn m ks cs ds n with
    | true,some (r,os,n)=>some (.ptr id 0::r,os,n)
    | _,_=>none
   | none=>none
  | _=>none
 | _,_,_,_=>none
def sN(lk:Nat->Option aB)(m:List (Nat×Nat)):List (List CK)->Nat->List (List TV)->Nat->Option (List (Nat×aB)×List (Nat×aB))
 | [],_,[],_=>some ([],[])
 | ks::sh,k,ds::bN,n=>match ah m k with
  | some id=>match lk id with
   | some (.box cs)=>match cn m ks cs ds n with
    | some (r,os,n)=>match sN lk m sh (k+1) bN n with
     | some (bs,ts)=>some ((id, .box r)::bs,os++ts)
     | none=>none
    | none=>none
   | _=>none
  | none=>none
 | _,_,_,_=>none
def gL:List Nat->List (Nat×aB)->List (Nat×aB)
 | [],os=>os
 | id::r,os=>gL r (bS id os)
def a1i(E:Env)(s:aj)(d:Nat)(f:FuncId)(Ts:List TypeId)(vs:List AV):Option (Vc×aj) :=
 match vs.reverse with
 | .av id::rv=>match s.ah id with
  | some (.av τ xs)=>match rb E (a0U s.ah []) (rv.map λ _=>none) Ts.dropLast rv.reverse with
   | some Z9=>match E.Yc f Z9 τ xs,τ.ur with
    | some (pre,ys),true=>some (pre,(s.bU.dn id τ ys).put (some d) .any)
    | _,_=>none
   | none=>none
  | _=>none
 | _=>none
def sop(E:Env)(s:aj)(o:Oper):Option (Vc×aj) :=
 match o.dst with
 | some d=>match o.op with
  | .call c=>match c.callee with
   | .value (
        .func f)=>match E.sk f with
    | some sk=>match jt sk.ps (c.args.toList.map s.eval) [] with
     | some m0=>match je s.ah sk.sh 0 m0 with
      | some (
          bN,ids,m)=>match nodupB ids&&(nodupB (m.map (·.1))&&(nodupB (m.map (·.2))&&Nat.beq m.length sk.sh.length)) with
       | true=>match rb E (sLk sk.sh (ids.foldl aj.gone s).ah (m.map (·.2))) sk.ps c.argTypes.toList (c.args.toList.map (ids.foldl aj.gone s).eval) with
        | some Z9=>match E.XZ f Z9 bN with
         | some (pre,res,dI)=>match sN (ids.foldl aj.gone s).ah m sk.sh 0 dI (bV d+60) with
          | some (bs,ts)=>match ((bx (bV d) res++ts).all λ p=>((ids.foldl aj.gone s).ah p.1).isNone)&&nodupB ((bx (bV d) res++ts).map (·.1)) with
           | true=>some (pre,{ aC:=(ids.foldl aj.gone s).aC.set d (kB (bV d) res),aJ:=bs++(bx (bV d) res++ts)++gL (m.map (·.2)) (ids.foldl aj.gone s).aJ })
           | false=>none
          | none=>none
         | none=>none
        | none=>none
       | false=>none
      | none=>none
     | none=>none
    | none=>a1i E s d f c.argTypes.toList (c.args.toList.map s.eval)
   | _=>none
  | _=>none
 | none=>none
def known(v:AV)(K:Prop):Prop :=
 match v with
 | .aH ⟨.int .i64,n⟩=>O n->K
 | .aH ⟨.slice _,xs⟩=>xs.length<=140737488355328->K
 | .aH ⟨.str,xs⟩=>xs.length<=140737488355328->K
 | _=>K
def Ye:Op->Bool
 | .load .. | .field .. | .index .. | .extract .. => true
 | .call c=>match c.callee with
  | .builtin .append=>false
  | _=>true
 | _=>false
def uE:Option Nat->Bool
 | none=>true
 | some d=>Nat.blt d 400000
def AV.stays:AV->Bool
 | .aH v=>match v.τ with
  | .ptr=>false
  | _=>true
 | .cX _=>true
 | _=>false
def b3S:Bool×TV->AV
 | (true,v) => .cX v
 | (false,v) => .aH v
def nop(E:Env)(s:aj)(o:Oper):Option (Vc×AV×Option aB):=match o.op with
 | .call c=>match c.callee with
  | .value (.func f)=>match o.dst with
   | some d=>match mC E (te s.ah) c.argTypes.toList (c.args.toList.map s.eval) with
    | some Z9=>match E.TT f Z9 with
     | some (pre, .box cells)=>some (pre, .ptr d 0,some (.box (cells.map .aH)))
     | some (pre, .row e τ xs)=>some (pre, .row d,some (.row e τ xs))
     | some (pre, .res l)=>match (c.args.toList.map s.eval).all AV.stays with
      | true=>some (pre, .iS (l.map b3S),none)
      | false=>none
     | none=>none
    | none=>none
   | none=>none
  | _=>none
 | _=>none
def lq(E:Env)(o:Oper)(K:aj->Prop)(s:aj):Prop :=
 match uE o.dst with
 | false=>False
 | true =>
 let s:=(kY E s o).foldl aj.freeze s;match sop E s o with
 | some (vc,s')=>vc.and (K s')
 | none=>match bop E s o with
 | some (vc,s')=>vc.and (K s')
 | none=>match eop E s o with
 | some (vc,s')=>vc.and (K s')
 | none=>match oop E s o with
 | some (vc,s')=>vc.and (K s')
 | none=>match nop E s o with
 | some (vc,v,ob)=>vc.and (K (s.lay o.dst v ob))
 | none=>match Ol E s.ah s.eval o with
  | some (vc,v,ob)=>vc.and (match Ye o.op with
   | true=>known v (K (s.lay o.dst v ob))
   | false=>K (s.lay o.dst v ob))
  | none=>False
def yB(ops:Array Oper)(g:Nat):Option Nat:=(ops[g]?).bind (·.dst)
def ft(
      E:Env) (ops:Array Oper):List Oper->List (Nat×Bool)->(aj->Prop)->aj->Prop
 | [],_,Q,s=>Q s
 | o::r,kn,Q,s=>match o.guard with
  | none=>lq E o (ft E ops r kn Q) s
  | some (
      g,want)=>match yB ops g with
   | none=>False
   | some t=>match ah kn t with
    | some b=>match s.eval (.tmp t) with
     | .aH ⟨.bool,b'⟩=>match b' == b,b == want with
      | true,true=>lq E o (ft E ops r kn Q) s
      | true,false=>ft E ops r kn Q (s.put o.dst .ep)
      | false,_=>False
     | .ep=>ft E ops r kn Q (s.put o.dst .ep)
     | _=>False
    | none=>match s.eval (.tmp t) with
     | .aH ⟨.bool,b⟩ =>
      (b=want->lq E o (ft E ops r ((t,want)::kn) Q) (s.put (some t) (.aH ⟨.bool,want⟩))) /\
      (b = !want->ft E ops r ((t,!want)::kn) Q ((s.put (some t) (.aH ⟨.bool,!want⟩)).put o.dst .ep))
     | .ep=>ft E ops r kn Q (s.put o.dst .ep)
     | _=>False
def xu(acc:List Nat)(s:Nat)(e:Edge):Nat :=
 match Region.binds .any e with
 | true=>s ||| (1 <<< e.on ||| acc.getD e.on 0)
 | false=>s
def bW:List Oper->List Nat->List Nat
 | [],acc=>acc
 | o::r,acc=>bW r (acc++[o.after.toList.foldl (xu acc) 0])
def oh:List Nat->Nat->Nat->Nat
 | [],_,m=>m
 | b::r,i,m=>match Nat.beq (b+1) (2 ^ i) with
  | true=>oh r (i+1) m
  | false=>oh r (i+1) (i+1)
def cF(ops:List Oper)(k:Nat):Option Nat:=(ops[k]?).bind (·.dst)
def hidden(ops:List Oper)(m bits t:Nat):Bool:=(List.range m).any λ k=>match cF ops k with
 | some d=>match Nat.beq d t with
  | true => !Nat.testBit bits k
  | false=>false
 | none=>false
def Yq(ops:List Oper)(m bits:Nat)(s:aj):Operand->AV
 | .tmp t=>match hidden ops m bits t with
  | true => .any
  | false=>s.eval (.tmp t)
 | x=>s.eval x
def US(ops:List Oper)(m bits:Nat)(s:aj)(id:Nat):Option aB:=match hidden ops m bits id with
 | true=>none
 | false=>s.ah id
def xZ:Op->Bool
 | .alloc _ | .box .. | .buildSlice .. | .makeSlice .. | .makeMap .. => true
 | .call c=>match c.callee with
  | .builtin .append=>true
  | _=>false
 | _=>false
def aj.fresh(s:aj)(o:Oper):aj :=
 match xZ o.op,o.dst with
 | true,some d=>let s':=s.cq d
  { s' with aJ:=bS d s'.aJ }
 | _,_=>s
def aj.jF(s:aj)(d:Option Nat)(v:AV)(o:Option aB):aj :=
 match d with
 | some d=>{ aC:=s.aC.set d v,aJ:=match o with
  | some o=>(d,o)::s.aJ
  | none=>s.aJ }
 | none=>s
def Q4(E:Env)(ops:List Oper)(m bits:Nat)(o:Oper)(K:aj->Prop)(s:aj):Prop :=
 match kY E s o with
 | []=>match Ol E (US ops m bits s) (Yq ops m bits s) o with
  | some (vc,v,ob)=>vc.and (K (s.jF o.dst v ob))
  | none=>False
 | _=>False
def mM(
      E:Env) (ops:List Oper) (m:Nat) (ck:List Nat):Nat->List Oper->List (Nat×Bool)->(List (Nat×Bool)->aj->Prop)->aj->Prop
 | _,[],kn,Q,s=>Q kn s
 | i,o::r,kn,Q,s=>match o.guard with
  | none=>Q4 E ops m (ck.getD i 0) o (mM E ops m ck (i+1) r kn Q) s
  | some (
      g,want)=>match cF ops g,Nat.testBit (ck.getD i 0) g with
   | some t,true=>match ah kn t with
    | some b=>match s.eval (.tmp t) with
     | .aH ⟨.bool,b'⟩=>match b' == b,b == want with
      | true,true=>Q4 E ops m (ck.getD i 0) o (mM E ops m ck (i+1) r kn Q) s
      | true,false=>mM E ops m ck (i+1) r kn Q (s.put o.dst .ep)
      | false,_=>False
     | .ep=>mM E ops m ck (i+1) r kn Q (s.put o.dst .ep)
     | _=>False
    | none=>match s.eval (.tmp t) with
     | .aH ⟨.bool,b⟩ =>
      (b=want->Q4 E ops m (ck.getD i 0) o (mM E ops m ck (i+1) r ((t,want)::kn) Q) (s.put (some t) (.aH ⟨.bool,want⟩))) /\
      (b = !want->mM E ops m ck (i+1) r ((t,!want)::kn) Q ((s.put (some t) (.aH ⟨.bool,!want⟩)).put o.dst .ep))
     | .ep=>mM E ops m ck (i+1) r kn Q (s.put o.dst .ep)
     | _=>False
   | _,_=>False
def distinct:List (Option Nat)->Bool
 | []=>true
 | none::_=>false
 | some d::r=>match r.any λ x=>match x with
   | some e=>Nat.beq d e
   | none=>false with
  | true=>false
  | false=>distinct r
def backward(ops:List Oper):Bool:=(List.range ops.length).all λ i=>match ops[i]? with
 | some o=>o.after.toList.all λ e=>match Region.binds .any e with
  | true=>Nat.blt e.on i
  | false=>true
 | none=>true
def xw(ops:List Oper)(s:aj)(K:Prop):Prop :=
 match ops with
 | []=>K
 | o::r=>match Ye o.op,o.dst with
  | true,some d=>known (s.aC.getD d .any) (xw r s K)
  | _,_=>xw r s K
def WU(ck:List Nat)(p:Nat):Bool:=(ck.drop p).all λ b=>Nat.beq (b % 2 ^ p) (2 ^ p - 1)
def a0m(ck:List Nat):List Nat->List Nat
 | []=>[]
 | p::r=>match WU ck p with
  | true=>p::a0m ck r
  | false=>a0m ck r
def x7:List (Option Nat)->Bool
 | []=>true
 | none::r=>x7 r
 | some d::r=>match r.any λ x=>match x with
   | some e=>Nat.beq d e
   | none=>false with
  | true=>false
  | false=>x7 r
def ID(l:List Oper)(lo hi:Nat):Bool :=
 ((
  (l.take hi).drop lo).all λ o=>uE o.dst)&&x7 (((l.take hi).drop lo).map (·.dst))&&(l.take lo).all λ o=>match o.dst with
  | none=>true
  | some d => !(((l.take hi).drop lo).any λ p=>match p.dst with
   | some e=>Nat.beq d e
   | none=>false)
def Oper.alone(E:Env)(o:Oper):Bool:=match o.op with
 | .store .. | .mapUpdate .. | .insert .. => true
 | _=>match o.dst with
  | some d=>E.own.contains d
  | none=>false
def Aa(u v:TV):Prop:=match u.Z9 v.τ with
 | some x=>x=v.x
 | none=>False
def a0V:Op->Option (List Operand)
 | .move x | .assign x | .nilCheck x | .fieldAddr _ x _ | .load _ x | .box _ x | .extract x _=>some [x]
 | .indexAddr _ x i | .store _ x i | .lookup _ x i _=>some [x,i]
 | .mapUpdate _ m k x | .insert _ m k x=>some [m,k,x]
 | .makeMap _ none=>some []
 | .alloc _=>some []
 | .binOp _ _ x y _=>some [x,y]
 | .build _ ps=>some (ps.toList.map (·.2))
 | .buildSlice _ _ ps=>some (ps.toList.map (·.2))
 | .call c=>match c.callee with
  | .value f=>some (f::c.args.toList)
  | .builtin _=>some c.args.toList
  | _=>none
 | .pick c x y=>some [c,x,y]
 | .slice _ x l h m=>some (x::(l.toList++(h.toList++m.toList)))
 | _=>none
def gd(D:List Nat)(o:Oper):Bool:=match a0V o.op with
 | some l=>l.all λ x=>match x with
  | .tmp t => !D.contains t
  | _=>true
 | none=>false
def reads:Op->Bool
 | .move _ | .nilCheck _ | .fieldAddr .. | .load .. | .indexAddr .. => true
 | _=>false
def rop(E:Env)(s:aj)(o:Oper):Option (Vc×AV):=match reads o.op with
 | true=>match Ol E s.ah s.eval o with
  | some (vc,v,none)=>some (vc,v)
  | _=>none
 | false=>none
def O2:AV->AV->Prop
 | .aH v, .aH u=>Aa v u
 | .cX v, .cX u=>Aa v u
 | .av i, .av j=>i=j
 | .row i, .row j=>i=j
 | .ptr i p, .ptr j q=>i=j/\p=q
 | .nil, .nil=>True
 | .ep, .ep=>True
 | _,_=>False
def VO:List AV->List AV->Prop
 | [],[]=>True
 | a::Z9,b::bs=>O2 a b/\VO Z9 bs
 | _,_=>False
def a0g(a b:AV):Prop:=match a,b with
 | .agg Z9, .agg bs=>VO Z9 bs
 | a,b=>O2 a b
def gW(E:Env):List (Nat×Oper)->aj->Prop->Prop
 | [],_,K=>K
 | r::rs,s,K=>match r.2.dst,rop E s r.2 with
  | some d,some (vc,v)=>vc.and (a0g v (s.aC.getD d .any)/\gW E rs s K)
  | _,_=>False
def O3(E:Env):List (Nat×Oper)->(aj->Prop)->aj->Prop
 | [],K,s=>K s
 | r::rs,K,s=>match r.2.dst,rop E s r.2 with
  | some d,some (vc,v)=>vc.and (known v (O3 E rs K (s.put (some d) v)))
  | _,_=>False
def dstsOf(R:List (Nat×Oper)):List Nat:=R.filterMap λ r=>r.2.dst
def oa:Op->Bool
 | .alloc _=>true
 | _=>false
def kp:Op->Bool
 | .extract .. => true
 | _=>false
def xh:Op->Bool
 | .buildSlice _ len ps=>Nat.beq len 0&&Nat.beq ps.size 0
 | _=>false
def JP(E:Env)(o:Oper):Bool:=match o.dst with
 | some d=>E.ro.contains d
 | none=>false
def dz(E:Env)(o:Oper):Bool:=oa o.op||(kp o.op||(xh o.op&&JP E o))
def s7(E:Env)(X:List (Nat×Oper)):List Nat:=X.filterMap λ x=>match dz E x.2 with
 | true=>x.2.dst
 | false=>none
def AW(s:aj):Op->Bool
 | .extract t i=>match s.eval t with
  | .iS vs=>Nat.blt i vs.length
  | _=>false
 | _=>true
def a0K(E:Env)(ck:List Nat)(X:List (Nat×Oper))(s:aj):Bool:=X.all λ e=>AW s e.2.op||X.any λ y => !dz E y.2&&Nat.testBit (ck.getD e.1 0) y.1
def Qn(ck:List Nat)(x:Nat×Oper):List (Nat×Oper)->List (Nat×Oper)
 | []=>[x]
 | y::ys=>match Nat.testBit (ck.getD y.1 0) x.1 with
  | true=>x::y::ys
  | false=>y::Qn ck x ys
def NS(E:Env)(ck:List Nat):List (Nat×Oper)->List (Nat×Oper)
 | []=>[]
 | x::xs=>match dz E x.2 with
  | true=>Qn ck x (NS E ck xs)
  | false=>x::NS E ck xs
def pV(E:Env)(o:Oper):Bool:=match o.op with
 | .alloc T=>o.dst.isSome&&(uE o.dst&&(ah E.ty T).isSome)
 | .extract .. => o.dst.isSome
 | .buildSlice T len ps => !(Nat.beq len 0&&Nat.beq ps.size 0&&JP E o)||(match o.dst,ah E.ty T with
  | some d,some (.slice _,_)=>Nat.blt d 400000&&(E.ro.contains d && !E.own.contains d)
  | _,_=>false)
 | _=>true
def VZ(E:Env)(ck:List Nat)(X:List (Nat×Oper))(y:Nat×Oper):Bool := !dz E y.2&&X.all λ z=>dz E z.2 || !Nat.testBit (ck.getD y.1 0) z.1
def Di(p:Nat×Oper->Bool)(f:Nat×Oper->Prop):List (Nat×Oper)->Prop
 | []=>True
 | y::ys=>match p y with
  | true=>f y/\Di p f ys
  | false=>Di p f ys
def iC(E:Env)(ck:List Nat):Nat->List (Nat×Oper)->List (Nat×Oper)->(aj->Prop)->aj->Prop
 | 0,_,X,K,s=>match X with
  | []=>K s
  | _::_=>False
 | n+1,R,X,K,s=>match X with
  | []=>K s
  | x::xs=>match a0K E ck (x::xs) s with
   | true=>match gd (dstsOf (R.filter λ r => !Nat.testBit (ck.getD x.1 0) r.1)++s7 E xs) x.2&&xs.all λ y=>dz E y.2||Nat.testBit (ck.getD y.1 0) x.1 with
    | true=>lq E x.2 (λ s'=>gW E (R.filter λ r => !Nat.testBit (ck.getD x.1 0) r.1) s' (iC E ck n (R.filter λ r => !Nat.testBit (ck.getD x.1 0) r.1) xs K s')) s
    | false=>match dz E x.2 with
     | true=>False
     | false=>Di (VZ E ck (x::xs)) (λ y=>match gd (dstsOf (R.filter λ r => !Nat.testBit (ck.getD y.1 0) r.1)++s7 E ((x::xs).filter λ z => !Nat.beq z.1 y.1)) y.2 with
      | true=>lq E y.2 (λ s'=>gW E (R.filter λ r => !Nat.testBit (ck.getD y.1 0) r.1) s' (iC E ck n (R.filter λ r => !Nat.testBit (ck.getD y.1 0) r.1) ((x::xs).filter λ z => !Nat.beq z.1 y.1) K s')) s
      | false=>False) (x::xs)
   | false=>False
def lJ:Nat->List Oper->List (Nat×Oper)
 | _,[]=>[]
 | i,o::r=>(i,o)::lJ (i+1) r
def Q1(E:Env)(o:Oper):Bool:=reads o.op&&(match o.dst with
 | some d => !E.own.contains d
 | none=>true)
def nu(E:Env)(ck:List Nat)(fv:List (Nat×Oper))(r:Nat×Oper):Bool :=
 Q1 E r.2&&fv.all λ y=>Q1 E y.2 || !Nat.testBit (ck.getD r.1 0) y.1
def a8k(E:Env)(ck:List Nat)(fv:List (Nat×Oper)):Bool :=
 (fv.all λ r=>r.2.guard.isNone&&pV E r.2)&&fv.all λ r => !(nu E ck fv r||kp r.2.op)||gd (dstsOf (fv.filter λ y => !Nat.testBit (ck.getD r.1 0) y.1)++bif kp r.2.op then s7 E fv else []) r.2
def a4P(E:Env)(ck:List Nat)(fv:List (Nat×Oper))(K:aj->Prop)(s:aj):Prop :=
 match a8k E ck fv with
 | true=>O3 E (fv.filter (nu E ck fv)) (λ s'=>gW E (fv.filter (nu E ck fv)) s' (iC E ck fv.length (fv.filter (nu E ck fv)) (NS E ck (fv.filter λ r => !nu E ck fv r)) K s')) s
 | false=>False
def xS(E:Env)(ops:Array Oper)(l:List Oper)(ck:List Nat):List Nat->Nat->List (Nat×Bool)->(aj->Prop)->aj->Prop
 | [],lo,_,Q,s=>match Nat.beq lo l.length with
  | true=>Q s
  | false=>False
 | hi::r,lo,kn,Q,s=>match WU ck hi&&(WU ck lo&&(Nat.blt lo hi&&Nat.ble hi l.length)) with
  | true=>match Nat.beq hi (lo+1) with
   | true=>ft E ops ((l.take hi).drop lo) kn (xS E ops l ck r hi kn Q) s
   | false=>match ID l lo hi,((l.take hi).drop lo).any (Oper.alone E) with
    | true,true=>a4P E ck (lJ lo ((l.take hi).drop lo)) (xS E ops l ck r hi kn Q) s
    | true,false=>mM E l hi ck lo ((l.take hi).drop lo) kn (λ kn s=>xw ((l.take hi).drop lo) s (xS E ops l ck r hi kn Q s)) (((l.take hi).drop lo).foldl aj.fresh s)
    | false,_=>False
  | false=>False
def VQ(E:Env)(ops:Array Oper)(Q:aj->Prop)(s:aj):Prop :=
 let l:=ops.toList
 let ck:=bW l []
 let m:=oh ck 0 0
 match ((l.take m).all λ o=>uE o.dst)&&(distinct ((l.take m).map (·.dst))&&backward l) with
 | true=>mM E l m ck 0 (l.take m) [] (λ kn s=>xw (l.take m) s (ft E ops (l.drop m) kn Q s)) ((l.take m).foldl aj.fresh s)
 | false=>False
def Ry(E:Env)(ops:Array Oper)(Q:aj->Prop)(s:aj):Prop :=
 let l:=ops.toList
 let ck:=bW l []
 match (l.take (oh ck 0 0)).any (Oper.alone E) with
 | false=>VQ E ops Q s
 | true=>match backward l with
  | true=>xS E ops l ck (a0m ck ((List.range l.length).map (·+1))) 0 [] Q s
  | false=>False
def a1s(E:Env)(ops:Array Oper)(Q:aj->Prop)(s:aj):Prop:=Ry E ops Q s
inductive aA:Type 1 where
 | none
 | mk (ι:Type) (P:ι->Prop) (μ:ι->Nat) (fz dead:List Nat) (ins:ι->List (Nat×AV)) (aR:List Nat) (os:ι->List (Nat×aB)) (Z1 ren:List (Nat×Nat)) (sub:ι->Nat->aA)
def aA.a(ι:Type)(P:ι->Prop)(μ:ι->Nat)(dead:List Nat)(ins:ι->List (Nat×AV))(aR:List Nat)(os:ι->List (Nat×aB)):aA := .mk ι P μ [] dead ins aR os [] [] λ _ _ => .none
def aA.b(ι:Type)(P:ι->Prop)(μ:ι->Nat)(dead:List Nat)(ins:ι->List (Nat×AV)):aA := .mk ι P μ [] dead ins [] (λ _=>[]) [] [] λ _ _ => .none
def aA.u(P:Prop)(dead:List Nat)(ins:List (Nat×AV))(aR:List Nat)(os:List (Nat×aB))(sub:Nat->aA):aA := .mk Unit (λ _=>P) (λ _=>0) [] dead (λ _=>ins) aR (λ _=>os) [] [] λ _=>sub
def cQ(k:Nat)(X:aA)(r:Nat->aA)(z:Nat):aA:=match Nat.beq z k with
 | true=>X
 | false=>r z
def bJ:Nat->aA:=λ _ => .none
def Code.EN:Code->List Nat
 | .region _ ops _=>ops.toList.filterMap (·.dst)
 | .seq a b=>Code.EN a++Code.EN b
 | .cond _ a b=>Code.EN a++Code.EN b
 | .block _ c=>Code.EN c
 | .loop c=>Code.EN c
 | .scope c=>Code.EN c
 | _=>[]
def Code.first:Code->Option Nat
 | .region id _ _=>some id
 | .seq a _=>Code.first a
 | .block _ c=>Code.first c
 | .loop c=>Code.first c
 | .cond _ a _=>Code.first a
 | _=>none
def Code.a9J(Λ:Nat->aA)(b:Code):aA:=match Code.first b with
 | some r=>Λ (r+100000)
 | none => .none
def a5H(sl:List AV):List (Nat×AV)->List AV
 | []=>sl
 | (t,v)::r=>a5H (sl.set t v) r
def Sh(aR:List Nat):List (Nat×aB)->List (Nat×aB)
 | []=>[]
 | (k,o)::r=>match aR.contains k with
  | true=>(k,o)::Sh aR r
  | false=>Sh aR r
def sr(s:aj)(EN:List Nat)(ins:List (Nat×AV))(aR:List Nat)(os:List (Nat×aB)):aj :=
 { aC:=a5H (EN.foldl (λ l t=>l.set t .any) s.aC) ins,aJ:=os++Sh aR s.aJ }
def dt(ρ:List (Nat×Nat))(id:Nat):Nat:=match ah ρ id with
 | some k=>k
 | none=>id
def isRow:Option aB->Bool
 | some (.row ..)=>true
 | _=>false
def gi:Option aB->Bool
 | some (.box _)=>true
 | _=>false
def NM:Option aB->Bool
 | some (.map _)=>true
 | _=>false
def AV.wz(ρ:List (Nat×Nat))(s t:aj)(a b:AV):Prop :=
 match b with
 | .any=>True
 | .aH v=>match a with
  | .aH u=>Aa u v
  | .nil=>match v with
   | ⟨.slice _,xs⟩=>xs=[]
   | _=>False
  | _=>False
 | .nil=>match a with
  | .nil=>True
  | _=>False
 | .cX v=>match a with
  | .cX u=>Aa u v
  | _=>False
 | .ptr id off=>match a with
  | .ptr i o=>match Nat.beq i (dt ρ id)&&Nat.beq o off&&gi (t.ah id) with
   | true=>True
   | false=>False
  | _=>False
 | .row id=>match a with
  | .row i=>match Nat.beq i (dt ρ id)&&isRow (t.ah id) with
   | true=>True
   | false=>False
  | .nil=>match isRow (t.ah id),s.ah (dt ρ id) with
   | true,Option.none=>True
   | _,_=>False
  | _=>False
 | .av id=>match a with
  | .av i=>match Nat.beq i (dt ρ id)&&cx (t.ah id) with
   | true=>True
   | false=>False
  | .nil=>match cx (t.ah id),s.ah (dt ρ id) with
   | true,Option.none=>True
   | _,_=>False
  | _=>False
 | .fn f=>match a with
  | .fn g=>match Nat.beq f g with
   | true=>True
   | false=>False
  | _=>False
 | .mp id=>match a with
  | .mp i=>match Nat.beq i (dt ρ id)&&NM (t.ah id) with
   | true=>True
   | false=>False
  | _=>False
 | _=>False
def LS(ρ:List (Nat×Nat))(s t:aj):List AV->List AV->Prop
 | [],[]=>True
 | a::Z9,b::bs=>match b with
  | .any=>LS ρ s t Z9 bs
  | b=>AV.wz ρ s t a b/\LS ρ s t Z9 bs
 | _,_=>False
def AV.b0E(ρ:List (Nat×Nat))(s t:aj)(a b:AV):Prop :=
 match a,b with
 | .agg Z9, .agg bs=>LS ρ s t Z9 bs
 | a,b=>AV.wz ρ s t a b
def a1M(ρ:List (Nat×Nat))(s t:aj):List AV->List AV->Prop
 | [],[]=>True
 | a::Z9,b::bs=>match b with
  | .any=>a1M ρ s t Z9 bs
  | b=>AV.b0E ρ s t a b/\a1M ρ s t Z9 bs
 | _,_=>False
def a5c(u v:FV):Prop:=match u.Z9 v.ps v.r with
 | some F=>F=v.F
 | none=>False
def AV.fit(ρ:List (Nat×Nat))(s t:aj)(a b:AV):Prop :=
 match a,b with
 | .dc f Z9, .dc g bs=>match Nat.beq f g with
  | true=>a1M ρ s t Z9 bs
  | false=>False
 | .iF u, .iF v=>a5c u v
 | .agg Z9, .agg bs=>LS ρ s t Z9 bs
 | .agg Z9, .aH v=>match Ae (λ _=>none) v.τ (.agg Z9) with
  | some x=>x=v.x
  | none=>False
 | a,b=>AV.wz ρ s t a b
def Dn(ρ:List (Nat×Nat))(s t:aj):List AV->List AV->Prop
 | [],[]=>True
 | a::Z9,b::bs=>match b with
  | .any=>Dn ρ s t Z9 bs
  | b=>AV.fit ρ s t a b/\Dn ρ s t Z9 bs
 | _,_=>False
def toO(x:J):oj:=⟨x.aq,x.aS,some x.M⟩
def a1g(bf:Ty)(ys:List bf.den)(τ:Ty)(xs:List τ.den):Prop :=
 match decide (τ = .st .oExpr),decide (bf = .st .expr) with
 | true,true=>Aa ⟨.slice (.st .oExpr),((show Option (List J) from TV.Z9 (.slice (.st .expr)) ⟨.slice bf,ys⟩).getD []).map toO⟩ ⟨.slice τ,xs⟩
 | _,_=>Aa ⟨.slice bf,ys⟩ ⟨.slice τ,xs⟩
def a3X(a b:MV):Prop:=match a.Z9 b.κ b.ε with
 | some (f,n)=>f=b.f/\n=b.n
 | none=>False
def kL(ρ:List (Nat×Nat))(s t:aj):List (Nat×aB)->Prop
 | []=>True
 | (id, .box bs)::r=>match s.ah (dt ρ id) with
  | some (.box Z9)=>LS ρ s t Z9 bs/\kL ρ s t r
  | _=>False
 | (id, .row e τ xs)::r=>match s.ah (dt ρ id) with
  | some (.row e' bf ys)=>match Nat.beq e e' with
   | true=>Aa ⟨.slice bf,ys⟩ ⟨.slice τ,xs⟩/\kL ρ s t r
   | false=>False
  | Option.none=>xs=[]/\kL ρ s t r
  | _=>False
 | (id, .av τ xs)::r=>match s.ah (dt ρ id) with
  | some (.av bf ys)=>a1g bf ys τ xs/\kL ρ s t r
  | Option.none=>xs=[]/\kL ρ s t r
  | _=>False
 | (id, .map m)::r=>match s.ah (dt ρ id) with
  | some (.map m')=>a3X m' m/\kL ρ s t r
  | _=>False
def Fits(ρ:List (Nat×Nat))(s t:aj):Prop :=
 match (nodupB (t.aJ.map (·.1))&&nodupB (t.aJ.map λ p=>dt ρ p.1))&&t.aJ.all (λ p=>Nat.blt p.1 50||(Nat.ble 100 p.1||(Nat.beq (dt ρ p.1) p.1&&cx (s.ah p.1))))&&t.aJ.all (λ p=>Nat.blt p.1 400000||(!gi (some p.2)||(Nat.beq (dt ρ p.1) p.1&&gi (s.ah p.1)))) with
 | true=>Dn ρ s t s.aC t.aC/\kL ρ s t t.aJ
 | false=>False
def a8C(ρ:List (Nat×Nat))(a b:AV):List (Nat×Nat):=match b with
 | .av k=>match a with
  | .av i=>match Nat.beq i (dt ρ k) with
   | true=>[]
   | false=>[(k,i)]
  | _=>[]
 | _=>[]
def a4s(ρ:List (Nat×Nat)):List AV->List AV->List (Nat×Nat)
 | a::Z9,b::bs=>a8C ρ a b++a4s ρ Z9 bs
 | _,_=>[]
def b2g(ρ:List (Nat×Nat))(a b:AV):List (Nat×Nat):=match b with
 | .agg bs=>match a with
  | .agg Z9=>a4s ρ Z9 bs
  | _=>[]
 | b=>a8C ρ a b
def XQ(ρ:List (Nat×Nat)):List AV->List AV->List (Nat×Nat)
 | a::Z9,b::bs=>b2g ρ a b++XQ ρ Z9 bs
 | _,_=>[]
def Kl(ρ:List (Nat×Nat))(s:aj):List (Nat×aB)->List (Nat×Nat)
 | []=>[]
 | (id, .box bs)::r=>match s.ah (dt ρ id) with
  | some (.box Z9)=>a4s ρ Z9 bs++Kl ρ s r
  | _=>Kl ρ s r
 | _::r=>Kl ρ s r
def a0u:List (Nat×Nat)->(List (Nat×Nat)->Prop)->Prop
 | [],K=>K []
 | (a,b)::r,K=>a0u r λ r'=>K ((a,b)::r')
def PI:∀ {l:List (Nat×Nat)} {K:List (Nat×Nat)->Prop},a0u l K->K l
 | [],_,h=>h
 | (a,b)::r,K,h=>PI (l:=r) (K:=λ r'=>K ((a,b)::r')) h
def Vy(ρ:List (Nat×Nat))(s t:aj):Prop:=a0u (Kl ρ s t.aJ++XQ ρ s.aC t.aC) λ r=>Fits (r++ρ) s t
def Vy.ex{ρ:List (Nat×Nat)}{s t:aj}(h:Vy ρ s t):∃ r,Fits (r++ρ) s t:=⟨_,PI h⟩
def p6(E:Env):Code->(Nat->aA)->Nat->(Exit->aj->Prop)->aj->Prop
 | .skip,_,_,Q,s=>Q .normal s
 | .region _ ops draw,_,_,Q,s=>match draw with
  | true=>a1s E ops (Q .normal) s
  | false=>ft E ops ops.toList [] (Q .normal) s
 | .seq a b,Λ,cur,Q,s=>match Code.a9J Λ b with
  | .none=>p6 E a Λ cur (λ e s'=>match e with
   | .normal=>p6 E b Λ cur Q s'
   | e=>Q e s') s
  | .mk ι P _ fz dead ins aR os Z1 _ sub =>
   let EN:=dead++Code.EN a;p6 E a Λ cur (λ e s'=>match e with
    | .normal=>∃ j:ι,P j/\Vy Z1 (fz.foldl aj.freeze s') (sr s EN (ins j) aR (os j))
    | e=>Q e s') s /\
   ∀ i:ι,P i->p6 E b (sub i) cur Q (sr s EN (ins i) aR (os i))
 | .cond c a b,Λ,cur,Q,s=>match s.eval c with
  | .aH ⟨.bool,t⟩=>(t=true->p6 E a Λ cur Q s)/\(t=false->p6 E b Λ cur Q s)
  | _=>False
 | .block id c,Λ,_,Q,s=>p6 E c Λ id (λ e s'=>match e with
  | .exit i=>match Nat.beq i id with
   | true=>Q .normal s'
   | false=>Q (.exit i) s'
  | e=>Q e s') s
 | .loop c,Λ,cur,Q,s=>match Λ cur with
  | .none=>False
  | .mk ι P μ fz dead ins aR os Z1 ren sub =>
   let EN:=dead++Code.EN c;(∃ i:ι,P i/\Vy Z1 (fz.foldl aj.freeze s) (sr s EN (ins i) aR (os i))) /\
   ∀ i:ι,P i->p6 E c (sub i) cur (λ e s'=>match e with
    | .normal=>∃ j:ι,P j/\μ j<μ i/\Vy ren (fz.foldl aj.freeze s') (sr s EN (ins j) aR (os j))
    | e=>Q e s') (sr s EN (ins i) aR (os i))
 | .exit id,_,_,Q,s=>Q (.exit id) s
 | .ret,_,_,Q,s=>Q .ret s
 | .label _,_,_,Q,s=>Q .normal s
 | _,_,_,_,_=>False
def S5(E:Env)(s:aj):List ResultVar->List TypeId->Option (List TV)
 | [],[]=>some []
 | r::rs,T::Ts=>match ah E.ty T with
  | some (τ,_)=>match (match r with
    | .tmp t=>Ae (QP s.ah) τ (s.eval (.tmp t))
    | .cell a t=>match Nat.beq t T with
     | true=>deref (QP s.ah) τ (s.eval (.tmp a))
     | false=>none) with
   | some x=>match S5 E s rs Ts with
    | some l=>some (⟨τ,x⟩::l)
    | none=>none
   | none=>none
  | none=>none
 | _,_=>none
def BU:Arg->AV
 | .val v => .aH v
 | .ref v => .cX v
 | .fn f => .fn f
 | .dc v => .iF v
 | .own _ => .any
 | .box _ => .any
def dO(fn:Func)(args:List Arg):aj :=
 { aC:=args.map BU++List.replicate (fn.ntmps - args.length) .any,aJ:=[] }
def sS:Nat->List Arg->aj->aj
 | _,[],s=>s
 | p, .own v::r,s=>sS (p+1) r { aC:=s.aC.set p (eZ (1000000+100 * p) v),aJ:=bX (1000000+100 * p) v.cells++s.aJ }
 | p,_::r,s=>sS (p+1) r s
def Rf(fn:Func)(args:List Arg):aj:=sS 0 args (dO fn args)
def yy(E:Env)(fn:Func)(post:List TV->Prop)(e:Exit)(s:aj):Prop :=
 match e with
 | .ret | .normal=>match S5 E s fn.results.toList fn.resultTypes.toList with
  | some vs=>post vs
  | none=>False
 | _=>False
def uC:List TV->List TV->Prop
 | [],[]=>True
 | [v],[u]=>Aa v u
 | v::vs,u::us=>Aa v u/\uC vs us
 | _,_=>False
end
def cf(w:World)(b o:Nat)(cs:List Value):Prop:=∀ j v,cs[j]?=some v->w.cell? ⟨b,o+j,none⟩=some v
def D.size:D->Nat
 | .agg ds=>ds.length
 | _=>1
mutual
def Rd(w:World)(S:Nat->Prop):D->List Value->Prop
 | .int k n,cs=>cs=[.int k n]/\k.min<=n/\n<=k.max
 | .bool b,cs=>cs=[.bool b]
 | .str s,cs=>∃ x:ByteArray,cs=[.string x]/\x.data.toList=s/\x.size<=140737488355328
 | .slice _ xs,cs=>∃ a cap,cs=[.slice a xs.length cap]/\xs.length<=cap/\cap<=maxLen/\xs.length<=140737488355328/\(xs=[]\/∃ b o,a=some ⟨b,o,none⟩/\S b/\dw w S xs b o)
 | .agg ds,cs=>dq w S ds cs
 | .hole,cs=>∃ a n m,cs=[.slice a n m]
 | .ptr,cs=>∃ p,cs=[.pointer p]
def dq(w:World)(S:Nat->Prop):List D->List Value->Prop
 | [],cs=>cs=[]
 | d::ds,cs=>∃ v r,cs=v::r/\Rd w S d [v]/\dq w S ds r
def dw(w:World)(S:Nat->Prop):List D->Nat->Nat->Prop
 | [],_,_=>True
 | d::ds,b,o=>(∃ cs,cs.length=d.size/\Rd w S d cs/\cf w b o cs)/\dw w S ds b (o+d.size)
end
def cf.aR{w w':World}{b o:Nat}{cs:List Value}(h:cf w b o cs)(hb:w'.heap[b]?=w.heap[b]?):cf w' b o cs :=
 λ j v hj=>by rw[<-h j v hj];exact b7w (a:=⟨b,o+j,none⟩) hb
mutual
def Rd.aR{w w':World}{S S':Nat->Prop}(hS:∀ b,S b->S' b)(hw:∀ b,S b->w'.heap[b]?=w.heap[b]?):∀ (d:D) {cs:List Value},Rd w S d cs->Rd w' S' d cs
 | .int _ _,_,h=>h
 | .bool _,_,h=>h
 | .str _,_,h=>h
 | .slice _ xs,_,h=>by
  obtain⟨a,cap,h1,h2,h3,h4,h5⟩:=h;refine⟨a,cap,h1,h2,h3,h4,h5.imp id ?_⟩;rintro⟨b,o,ha,hb,hr⟩;exact⟨b,o,ha,hS b hb,dw.aR hS hw xs b o hb hr⟩
 | .agg ds,_,h=>dq.aR hS hw ds h
 | .hole,_,h=>h
 | .ptr,_,h=>h
def dq.aR{w w':World}{S S':Nat->Prop}(hS:∀ b,S b->S' b)(hw:∀ b,S b->w'.heap[b]?=w.heap[b]?):∀ (ds:List D) {cs:List Value},dq w S ds cs->dq w' S' ds cs
 | [],_,h=>h
 | d::ds,_,h=>by
  obtain⟨v,r,h1,h2,h3⟩:=h;exact⟨v,r,h1,Rd.aR hS hw d h2,dq.aR hS hw ds h3⟩
def dw.aR{w w':World}{S S':Nat->Prop}(hS:∀ b,S b->S' b)(hw:∀ b,S b->w'.heap[b]?=w.heap[b]?):∀ (ds:List D) (b o:Nat),S b->dw w S ds b o->dw w' S' ds b o
 | [],_,_,_,_=>trivial
 | d::ds,b,o,hb,h=>by
  obtain⟨⟨cs,h1,h2,h3⟩,h4⟩:=h;exact⟨⟨cs,h1,Rd.aR hS hw d h2,h3.aR (hw b hb)⟩,dw.aR hS hw ds b _ hb h4⟩
end
def dq.length{w:World}{S:Nat->Prop}:∀ (ds:List D) {cs:List Value},dq w S ds cs->cs.length=ds.length
 | [],_,h=>by rw[show _=[] from h];rfl
 | d::ds,_,h=>by
  obtain⟨v,r,rfl,_,h3⟩:=h;simp[dq.length ds h3]
def Rd.length{w:World}{S:Nat->Prop}(d:D){cs:List Value}(h:Rd w S d cs):cs.length=d.size:=by
 cases d with
 | int k n=>rw[h.1];rfl
 | bool b=>rw[show cs=_ from h];rfl
 | str s=>obtain⟨x,h,_⟩:=h;rw[h];rfl
 | slice n xs=>obtain⟨a,cap,h,_⟩:=h;rw[h];rfl
 | agg ds=>exact dq.length ds h
 | hole=>obtain⟨a,n,m,h⟩:=h;rw[h];rfl
 | ptr=>obtain⟨p,h⟩:=h;rw[h];rfl
def Ty.cN(t:Ty)(x:t.den):(t.aP x).size=t.size:=by
 cases t with
 | st s=>simp[Ty.aP,aV.cz,D.size,Ty.size,aV.iV]
 | mv t=>cases (show Option (List t.den) from x)<;>rfl
 | _=>rfl
def dw.at_{w:World}{S:Nat->Prop}{n:Nat}:∀ (ds:List D) (b o:Nat),dw w S ds b o->(∀ d∈ds,d.size=n)->∀ i d,ds[i]?=some d ->
  ∃ cs,cs.length=n/\Rd w S d cs/\cf w b (o+i * n) cs
 | [],_,_,_,_,i,d,h=>by simp at h
 | e::ds,b,o,h,hn,0,d,hi=>by
  obtain⟨⟨cs,h1,h2,h3⟩,_⟩:=h;simp at hi;subst hi;exact⟨cs,by rw[h1];exact hn _ (by simp),h2,by simpa using h3⟩
 | e::ds,b,o,h,hn,i+1,d,hi=>by
  obtain⟨_,h4⟩:=h;rw[hn e (by simp)] at h4;obtain⟨cs,h1,h2,h3⟩:=dw.at_ ds b (o+n) h4 (λ d hd=>hn d (by simp[hd])) i d (by simpa using hi);exact⟨cs,h1,h2,by rw[show o+(i+1) * n=o+n+i * n by rw[Nat.add_mul];omega];exact h3⟩
def dw.a7v{w:World}{S:Nat->Prop}{n:Nat}:∀ (k:Nat) (ds:List D) (b o:Nat),dw w S ds b o->(∀ d∈ds,d.size=n)->dw w S (ds.drop k) b (o+k * n)
 | 0,ds,b,o,h,_=>by simpa using h
 | k+1,[],b,o,h,_=>by simp[dw]
 | k+1,d::ds,b,o,h,hn=>by
  have:=dw.a7v k ds b (o+n) (by have:=h.2;rwa [hn d (by simp)] at this) (λ d hd=>hn d (by simp[hd]));rw[show o+(k+1) * n=o+n+k * n by rw[b6i];omega];exact this
def dw.a9b{w:World}{S:Nat->Prop}:∀ (k:Nat) (ds:List D) (b o:Nat),dw w S ds b o->dw w S (ds.take k) b o
 | 0,ds,b,o,h=>by simp[dw]
 | k+1,[],b,o,h=>by simp[dw]
 | k+1,d::ds,b,o,h=>⟨h.1,dw.a9b k ds b _ h.2⟩
def dU(w:World)(S:Nat->Prop):List D->List Value->Prop
 | [],l=>l=[]
 | d::ds,l=>∃ c r,l=c++r/\Rd w S d c/\dU w S ds r
def dU.aR{w w':World}{S S':Nat->Prop}(hS:∀ b,S b->S' b)(hw:∀ b,S b->w'.heap[b]?=w.heap[b]?):∀ (ds:List D) {l:List Value},dU w S ds l->dU w' S' ds l
 | [],_,h=>h
 | d::ds,_,h=>by
  obtain⟨c,r,h1,h2,h3⟩:=h;exact⟨c,r,h1,Rd.aR hS hw d h2,dU.aR hS hw ds h3⟩
def dU.append{w:World}{S:Nat->Prop}:∀ (ds es:List D) {l m:List Value},dU w S ds l->dU w S es m->dU w S (ds++es) (l++m)
 | [],_,_,_,h,k=>by rw[show _=[] from h];simpa using k
 | d::ds,es,_,m,h,k=>by
  obtain⟨c,r,rfl,h2,h3⟩:=h;exact⟨c,r++m,by simp,h2,dU.append ds es h3 k⟩
def dU.length{w:World}{S:Nat->Prop}{n:Nat}:∀ (ds:List D) {l:List Value},dU w S ds l->(∀ d∈ds,d.size=n)->l.length=ds.length * n
 | [],_,h,_=>by rw[show _=[] from h];simp
 | d::ds,_,h,hn=>by
  obtain⟨c,r,rfl,h2,h3⟩:=h;rw[b5f,Rd.length d h2,hn d (by simp),dU.length ds h3 (λ d hd=>hn d (by simp[hd])),b4Y,b6i];omega
def dU.row{w:World}{S:Nat->Prop}:∀ (ds:List D) {l:List Value} (b o:Nat),dU w S ds l->cf w b o l->dw w S ds b o
 | [],_,_,_,_,_=>trivial
 | d::ds,_,b,o,h,hc=>by
  obtain⟨c,r,rfl,h2,h3⟩:=h;refine⟨⟨c,Rd.length d h2,h2,λ j v hj=>hc j v ?_⟩,dU.row ds b _ h3 λ j v hj=>?_⟩
  .rw[b6V]
   .exact hj
   .exact (b5K.1 hj).1
  .have:=hc (c.length+j) v (by rw[List.getElem?_append_right (by omega)];simpa using hj);rwa [Rd.length d h2,<-Nat.add_assoc] at this
def dw.cells{w:World}{S:Nat->Prop}:∀ (ds:List D) (b o:Nat),dw w S ds b o->∃ l,dU w S ds l/\cf w b o l
 | [],_,_,_=>⟨[],rfl,λ j v h=>by simp at h⟩
 | d::ds,b,o,h=>by
  obtain⟨⟨c,h1,h2,h3⟩,h4⟩:=h;obtain⟨r,h5,h6⟩:=dw.cells ds b _ h4;refine⟨c++r,⟨c,r,rfl,h2,h5⟩,λ j v hj=>?_⟩;rcases b5Q j c.length with bK|hge
  .exact h3 j v (by rwa [b6V bK] at hj)
  .rw[b6s hge] at hj;have:=h6 (j - c.length) v hj;rwa [<-h1,show o+c.length+(j - c.length)=o+j by omega] at this
def dU.at_{w:World}{S:Nat->Prop}{n:Nat}:∀ (ds:List D) {l:List Value},dU w S ds l->(∀ d∈ds,d.size=n)->∀ i d,ds[i]?=some d->Rd w S d ((l.drop (i * n)).take n)
 | [],_,_,_,i,d,h=>by simp at h
 | e::ds,_,h,hn,0,d,hi=>by
  obtain⟨c,r,rfl,h2,h3⟩:=h;simp at hi;subst hi;have:c.length=n:=by rw[Rd.length _ h2];exact hn _ (by simp)
  simpa [<-this] using h2
 | e::ds,_,h,hn,i+1,d,hi=>by
  obtain⟨c,r,rfl,h2,h3⟩:=h;have hc:c.length=n:=by rw[Rd.length _ h2];exact hn _ (by simp)
  have:=dU.at_ ds h3 (λ d hd=>hn d (by simp[hd])) i d (by simpa using hi);have h0:List.drop (n+i * n) c=[]:=List.drop_eq_nil_of_le (by omega);rw[show (i+1) * n=n+i * n by rw[Nat.add_mul];omega,List.drop_append,h0,List.nil_append,show n+i * n - c.length=i * n by omega];exact this
def vP:Value->Bool
 | .int .. | .bool _ | .string _ | .slice .. | .pointer _=>true
 | _=>false
def D.leaf:D->Bool
 | .agg _=>false
 | _=>true
def Rd.vP{w:World}{S:Nat->Prop}{d:D}(hd:d.leaf=true){cs:List Value}(h:Rd w S d cs):∃ v,cs=[v]/\YtmjfpcajohhbeaaGreatDoor.vP v=true:=by
 cases d with
 | int k n=>exact⟨_,h.1,rfl⟩
 | bool b=>exact⟨_,h,rfl⟩
 | str s=>obtain⟨x,h,_⟩:=h;exact⟨_,h,rfl⟩
 | slice n xs=>obtain⟨a,cap,h,_⟩:=h;exact⟨_,h,rfl⟩
 | agg ds=>cases hd
 | hole=>obtain⟨a,n,m,h⟩:=h;exact⟨_,h,rfl⟩
 | ptr=>obtain⟨p,h⟩:=h;exact⟨_,h,rfl⟩
def By{v:Value}(h:YtmjfpcajohhbeaaGreatDoor.vP v=true):v.oneCell'=true:=by cases v<;>first|rfl|cases h
def Qx{v:Value}(h:YtmjfpcajohhbeaaGreatDoor.vP v=true):v.cells = #[v]:=by cases v<;>first|rfl|cases h
def SI{α:Type}(n:Nat)(f:α->D)(o:Option (List α)):(mvD n f o).leaf=true:=by cases o<;>rfl
def aV.pE(s:aV)(x:s.den):∀ v∈s.cells x,v.aP.leaf=true:=by
 cases s<;>simp[aV.cells,TV.aP,Ty.aP,D.leaf]<;>exact SI _ _ _
mutual
def Ow(w:World):D->List Value->List Nat->Prop
 | .int k n,cs,fp=>(cs=[.int k n]/\k.min<=n/\n<=k.max)/\fp=[]
 | .bool b,cs,fp=>cs=[.bool b]/\fp=[]
 | .str s,cs,fp=>(∃ x:ByteArray,cs=[.string x]/\x.data.toList=s/\x.size<=140737488355328)/\fp=[]
 | .slice n xs,cs,fp=>∃ a cap,cs=[.slice a xs.length cap]/\xs.length<=cap/\cap<=maxLen/\xs.length<=140737488355328 /\
   ((xs=[]/\(a=none/\cap=0)/\fp=[])\/∃ b f l t,a=some ⟨b,0,none⟩/\fp=b::f/\w.heap[b]?=some (.cells l.toArray t (0,0))/\l.length=cap * n/\bR w xs l f)
 | .agg ds,cs,fp=>cT w ds cs fp
 | .hole,cs,fp=>(∃ a n m,cs=[.slice a n m])/\fp=[]
 | .ptr,cs,fp=>(∃ p,cs=[.pointer p])/\fp=[]
def cT(w:World):List D->List Value->List Nat->Prop
 | [],cs,fp=>cs=[]/\fp=[]
 | d::ds,cs,fp=>∃ v r f1 f2,cs=v::r/\fp=f1++f2/\Ow w d [v] f1/\cT w ds r f2
def bR(w:World):List D->List Value->List Nat->Prop
 | [],_,fp=>fp=[]
 | d::ds,l,fp=>∃ c r f1 f2,l=c++r/\fp=f1++f2/\Ow w d c f1/\bR w ds r f2
end
def cT.length{w:World}:∀ (ds:List D) {cs:List Value} {fp:List Nat},cT w ds cs fp->cs.length=ds.length
 | [],_,_,h=>by rw[h.1];rfl
 | d::ds,_,_,h=>by
  obtain⟨v,r,f1,f2,rfl,_,_,h4⟩:=h;simp[cT.length ds h4]
def Ow.length{w:World}(d:D){cs:List Value}{fp:List Nat}(h:Ow w d cs fp):cs.length=d.size:=by
 cases d with
 | int k n=>rw[h.1.1];rfl
 | bool b=>rw[h.1];rfl
 | str s=>obtain⟨⟨x,h,_⟩,_⟩:=h;rw[h];rfl
 | slice n xs=>obtain⟨a,cap,h,_⟩:=h;rw[h];rfl
 | agg ds=>exact cT.length ds h
 | hole=>obtain⟨⟨a,n,m,h⟩,_⟩:=h;rw[h];rfl
 | ptr=>obtain⟨⟨p,h⟩,_⟩:=h;rw[h];rfl
def Ip{w:World}{b:Nat}{p c r:List Value}{t:TypeId}(h:w.heap[b]?=some (.cells (p++(c++r)).toArray t (0,0))):cf w b p.length c:=by
 intro j v hj;have hl:j<c.length:=(b5K.1 hj).1;have h2:(p++(c++r))[p.length+j]?=some v:=by
  rw[b6s (by omega),b7m,b6V hl];exact hj
 simp[World.cell?,h,h2]
mutual
def Ow.rd{w:World}{S:Nat->Prop}:∀ (d:D) {cs:List Value} {fp:List Nat},Ow w d cs fp->(∀ b∈fp,S b)->Rd w S d cs
 | .int _ _,_,_,h,_=>h.1
 | .bool _,_,_,h,_=>h.1
 | .str _,_,_,h,_=>h.1
 | .slice n xs,_,_,h,hS=>by
  obtain⟨a,cap,h1,h2,h3,h4,h5⟩:=h;refine⟨a,cap,h1,h2,h3,h4,h5.imp And.left ?_⟩;rintro⟨b,f,l,t,rfl,rfl,hb,_,hr⟩;exact⟨b,0,rfl,hS b (by simp),bR.rd xs (p:=[]) (by simpa using hb) hr (λ b hb=>hS b (by simp[hb]))⟩
 | .agg ds,_,_,h,hS=>cT.rd ds h hS
 | .hole,_,_,h,_=>h.1
 | .ptr,_,_,h,_=>h.1
def cT.rd{w:World}{S:Nat->Prop}:∀ (ds:List D) {cs:List Value} {fp:List Nat},cT w ds cs fp->(∀ b∈fp,S b)->dq w S ds cs
 | [],_,_,h,_=>h.1
 | d::ds,_,_,h,hS=>by
  obtain⟨v,r,f1,f2,h1,rfl,h3,h4⟩:=h;exact⟨v,r,h1,Ow.rd d h3 λ b hb=>hS b (by simp[hb]),cT.rd ds h4 λ b hb=>hS b (by simp[hb])⟩
def bR.rd{w:World}{S:Nat->Prop}{b:Nat}{t:TypeId}:∀ (ds:List D) {p l:List Value} {fp:List Nat},w.heap[b]?=some (.cells (p++l).toArray t (0,0))->bR w ds l fp->(∀ b∈fp,S b)->dw w S ds b p.length
 | [],_,_,_,_,_,_=>trivial
 | d::ds,p,_,_,hb,h,hS=>by
  obtain⟨c,r,f1,f2,rfl,rfl,h3,h4⟩:=h;have hl:=Ow.length d h3;refine⟨⟨c,hl,Ow.rd d h3 λ b hb=>hS b (by simp[hb]),Ip hb⟩,?_⟩;have:=bR.rd ds (p:=p++c) (l:=r) (by simpa using hb) h4 (λ b hb=>hS b (by simp[hb]));rw[<-hl];simpa using this
end
mutual
def Ow.aR{w w':World}:∀ (d:D) {cs:List Value} {fp:List Nat},Ow w d cs fp->(∀ b∈fp,w'.heap[b]?=w.heap[b]?)->Ow w' d cs fp
 | .int _ _,_,_,h,_=>h
 | .bool _,_,_,h,_=>h
 | .str _,_,_,h,_=>h
 | .slice n xs,_,_,h,hw=>by
  obtain⟨a,cap,h1,h2,h3,h4,h5⟩:=h;refine⟨a,cap,h1,h2,h3,h4,h5.imp id ?_⟩;rintro⟨b,f,l,t,rfl,rfl,hb,hc,hr⟩;exact⟨b,f,l,t,rfl,rfl,by rw[hw b (by simp)];exact hb,hc,bR.aR xs hr λ b hb=>hw b (by simp[hb])⟩
 | .agg ds,_,_,h,hw=>cT.aR ds h hw
 | .hole,_,_,h,_=>h
 | .ptr,_,_,h,_=>h
def cT.aR{w w':World}:∀ (ds:List D) {cs:List Value} {fp:List Nat},cT w ds cs fp->(∀ b∈fp,w'.heap[b]?=w.heap[b]?)->cT w' ds cs fp
 | [],_,_,h,_=>h
 | d::ds,_,_,h,hw=>by
  obtain⟨v,r,f1,f2,h1,rfl,h3,h4⟩:=h;exact⟨v,r,f1,f2,h1,rfl,Ow.aR d h3 λ b hb=>hw b (by simp[hb]),cT.aR ds h4 λ b hb=>hw b (by simp[hb])⟩
def bR.aR{w w':World}:∀ (ds:List D) {l:List Value} {fp:List Nat},bR w ds l fp->(∀ b∈fp,w'.heap[b]?=w.heap[b]?)->bR w' ds l fp
 | [],_,_,h,_=>h
 | d::ds,_,_,h,hw=>by
  obtain⟨c,r,f1,f2,h1,rfl,h3,h4⟩:=h;exact⟨c,r,f1,f2,h1,rfl,Ow.aR d h3 λ b hb=>hw b (by simp[hb]),bR.aR ds h4 λ b hb=>hw b (by simp[hb])⟩
end
mutual
def D.light:D->Bool
 | .slice .. => false
 | .agg ds=>D.Kh ds
 | _=>true
def D.Kh:List D->Bool
 | []=>true
 | d::ds=>d.light&&D.Kh ds
end
mutual
def Ow.ew{w:World}{S:Nat->Prop}:∀ (d:D) {cs:List Value},d.light=true->Rd w S d cs->Ow w d cs []
 | .int _ _,_,_,h=>⟨h,rfl⟩
 | .bool _,_,_,h=>⟨h,rfl⟩
 | .str _,_,_,h=>⟨h,rfl⟩
 | .slice n xs,_,hl,h=>by
  obtain⟨a,cap,h1,h2,h3,h4,h5⟩:=h;cases hl
 | .agg ds,_,hl,h=>cT.ew ds hl h
 | .hole,_,_,h=>⟨h,rfl⟩
 | .ptr,_,_,h=>⟨h,rfl⟩
def cT.ew{w:World}{S:Nat->Prop}:∀ (ds:List D) {cs:List Value},D.Kh ds=true->dq w S ds cs->cT w ds cs []
 | [],_,_,h=>⟨h,rfl⟩
 | d::ds,_,hl,h=>by
  obtain⟨v,r,h1,h2,h3⟩:=h;simp only[D.Kh,b4S] at hl;exact⟨v,r,[],[],h1,rfl,Ow.ew d hl.1 h2,cT.ew ds hl.2 h3⟩
end
def bR.ew{w:World}{S:Nat->Prop}:∀ (ds:List D) {l m:List Value},(∀ d∈ds,d.light=true)->dU w S ds l->bR w ds (l++m) []
 | [],_,_,_,_=>rfl
 | d::ds,_,m,hl,h=>by
  obtain⟨c,r,rfl,h2,h3⟩:=h;exact⟨c,r++m,[],[],by simp,rfl,Ow.ew d (hl d (by simp)) h2,bR.ew ds (λ d hd=>hl d (by simp[hd])) h3⟩
def LP{α:Type}(c r:List α)(k:Nat):(c++r).drop (c.length+k)=r.drop k:=by
 rw[<-b6C,b7i]
def CE{α:Type}(c r:List α)(k:Nat):(c++r).take (c.length+k)=c++r.take k:=by
 rw[b8t,b5o (by omega),b7m]
def bR.split{w:World}{n:Nat}:∀ (ds:List D) {l:List Value} {fp:List Nat} (i:Nat) (d:D),bR w ds l fp->(∀ d∈ds,d.size=n)->ds[i]?=some d ->
  ∃ f0 f1 f2,fp=f0++f1++f2/\i * n+n<=l.length/\Ow w d ((l.drop (i * n)).take n) f1 /\
   ∀ (w':World) (d':D) (c':List Value) (iE:List Nat),(∀ b∈f0++f2,w'.heap[b]?=w.heap[b]?)->c'.length=n->Ow w' d' c' iE->bR w' (ds.set i d') (l.take (i * n)++c'++l.drop (i * n+n)) (f0++iE++f2)
 | [],_,_,_,_,_,_,h=>by simp at h
 | e::ds,l,fp,0,d,h,hn,hi=>by
  obtain⟨c,r,f1,f2,rfl,rfl,h3,h4⟩:=h;simp at hi;subst hi;have hc:c.length=n:=by rw[Ow.length _ h3];exact hn _ (by simp)
  refine⟨[],f1,f2,by simp,by simp;omega,?_,λ w' d' c' iE hw Ul Ht=>?_⟩
  .simp only[b7S,b7b];rw[<-hc,b7c];exact h3
  .simp only[b7S,b5T,b5q,b6w,b8d];rw[<-hc,b7i];exact⟨c',r,iE,f2,rfl,rfl,Ht,bR.aR ds h4 λ b hb=>hw b (by simp[hb])⟩
 | e::ds,l,fp,i+1,d,h,hn,hi=>by
  obtain⟨c,r,g1,g2,rfl,rfl,h3,h4⟩:=h;have hc:c.length=n:=by rw[Ow.length _ h3];exact hn _ (by simp)
  obtain⟨f0,f1,f2,rfl,hlen,k1,k2⟩:=bR.split ds i d h4 (λ d hd=>hn d (by simp[hd])) (by simpa using hi);have e1:(i+1) * n=c.length+i * n:=by rw[hc,Nat.add_mul];omega
  have e2:(i+1) * n+n=c.length+(i * n+n):=by omega
  refine⟨g1++f0,f1,f2,by simp,by simp;omega,?_,λ w' d' c' iE hw Ul Ht=>?_⟩
  .rw[e1,LP];exact k1
  .rw[e1,show c.length+i * n+n=c.length+(i * n+n) by omega,CE,LP];have:=k2 w' d' c' iE (λ b hb=>hw b (by simp at hb ⊢;rcases hb with hb|hb<;>simp[hb])) Ul Ht;rw[show (e::ds).set (i+1) d'=e::ds.set i d' from rfl];exact⟨c,r.take (i * n)++c'++r.drop (i * n+n),g1,f0++iE++f2,by simp,by simp,Ow.aR e h3 λ b hb=>hw b (by simp[hb]),this⟩
open Go.MapKept
def xb(τ:Ty)(x:τ.den)(v:Value):Prop:=∀ (w:World) (S:Nat->Prop),Rd w S (τ.aP x) [v]
theorem xb.of{τ:Ty}(jB:τ.key=true){x:τ.den}{v:Value}{w:World}{S:Nat->Prop}(h:Rd w S (τ.aP x) [v]):xb τ x v:=by
 intro w' S';cases τ with
 | int k=>exact h
 | bool=>exact h
 | str=>exact h
 | _=>cases jB
theorem xb.val{τ:Ty}(jB:τ.key=true){x y:τ.den}{v:Value}(h:xb τ x v)(k:xb τ y v)(w:World):x=y:=by
 have h:=h w (λ _=>False);have k:=k w (λ _=>False);cases τ with
 | int q =>
  simp only[Ty.aP,Rd,List.cons.injEq,and_true] at h k;obtain⟨rfl,_⟩:=h;exact (by simpa using k.1)
 | bool =>
  simp only[Ty.aP,Rd,List.cons.injEq,and_true] at h k;subst h;simpa using k
 | str =>
  obtain⟨a,h1,h2,_⟩:=h;obtain⟨b,k1,k2,_⟩:=k;simp only[b4X,b5d] at h1 k1;subst h1;simp only[Value.string.injEq] at k1;subst k1;exact h2.symm.trans k2
 | _=>cases jB
theorem xb.inj{τ:Ty}(jB:τ.key=true){x:τ.den}{v u:Value}(h:xb τ x v)(k:xb τ x u)(w:World):v=u:=by
 have h:=h w (λ _=>False);have k:=k w (λ _=>False);cases τ with
 | int q =>
  simp only[Ty.aP,Rd,b4X,b5d] at h k;exact h.1.trans k.1.symm
 | bool =>
  simp only[Ty.aP,Rd,b4X,b5d] at h k;exact h.trans k.symm
 | str =>
  obtain⟨⟨⟨a⟩⟩,h1,h2,_⟩:=h;obtain⟨⟨⟨b⟩⟩,k1,k2,_⟩:=k;simp only[b4X,b5d] at h1 k1;simp only at h2 k2;rw[h1,k1,h2,k2]
 | _=>cases jB
def descOf:Ty->TypeDesc
 | .int k => .int k
 | .str => .string
 | _ => .bool
theorem xb.isKey{τ:Ty}(jB:τ.key=true){x:τ.den}{v:Value}(h:xb τ x v)(w:World):IsKey (descOf τ) v:=by
 have h:=h w (λ _=>False);cases τ with
 | int q =>
  simp only[Ty.aP,Rd,b4X,b5d] at h;obtain⟨rfl,_⟩:=h;rfl
 | bool =>
  simp only[Ty.aP,Rd,b4X,b5d] at h;subst h;trivial
 | str =>
  obtain⟨a,h1,h2,_⟩:=h;simp only[b4X,b5d] at h1;subst h1;trivial
 | _=>cases jB
structure OM(m:MV)(es:Array MapEntry):Prop where
 sk:m.κ.key=true
 se:m.ε.key=true
 len:es.size=m.n
 small:m.n<=1000000000
 nd:es.toList.Pairwise λ x y=>x.key≠y.key
 ent:∀ e∈es.toList,∃ k v,xb m.κ k e.key/\xb m.ε v e.val/\m.f k=some v
 all:∀ k v,m.f k=some v->∃ e∈es.toList,xb m.κ k e.key
section
variable {P:Program} {w:World} {m:MV} {es:Array MapEntry} {clock b:Nat} {T kT eT:TypeId}
theorem OM.found(h:OM m es){k:m.κ.den}{v:Value}(hv:xb m.κ k v)(w:World) :
  (Instr.findNow (descOf m.κ) v es.toList 0=some none/\(∀ e∈es.toList,e.key≠v)/\m.f k=none) \/
  ∃ j e x,Instr.findNow (descOf m.κ) v es.toList 0=some (some (j,e.val))/\es.toList[j]?=some e/\e.key=v/\m.f k=some x/\xb m.ε x e.val:=by
 have hk:∀ e∈es.toList,IsKey (descOf m.κ) e.key:=λ e he=>by
  obtain⟨k',v',h1,_⟩:=h.ent e he;exact h1.isKey h.sk w
 rcases findNow_spec (hv.isKey h.sk w) es.toList 0 hk with ⟨h1,h2⟩|⟨j,e,h1,h2,h3⟩
 .refine .inl ⟨h1,h2,?_⟩;cases hf:m.f k with
  | none=>rfl
  | some x =>
   obtain⟨e,he,hke⟩:=h.all k x hf;exact absurd (hke.inj h.sk hv w) (h2 e he)
 .obtain⟨k',x,k1,k2,k3⟩:=h.ent e (List.mem_of_getElem? h2);have:k'=k:=k1.val h.sk (h3 ▸ hv) w;subst this;exact .inr ⟨j,e,x,by simpa using h1,h2,h3,k3,k2⟩
theorem OM.ah(h:OM m es)(hT:P.underlying T=some (.map kT eT))(hk:P.underlying kT=some (descOf m.κ))(hb:w.heap[b]?=some (.map es clock)){z:Value}(hz:(zeroValue eT).run P w = .ok z w)(hzr:xb m.ε m.ε.zero z)
  {k:m.κ.den} {v:Value} (hv:xb m.κ k v) (c:Bool):∃ u,xb m.ε ((m.f k).getD m.ε.zero) u/\(Instr.lookup T (.map (some b)) v c).run P w = .ok (if c then .tuple #[u, .bool (m.f k).isSome] else u) w:=by
 rcases h.found hv w with ⟨h1,h2,h3⟩|⟨j,e,x,h1,h2,h3,h4,h5⟩
 .refine⟨z,by rw[h3];exact hzr,?_⟩;rw[h3];simp[Instr.lookup,b5N hT,b7s hb,run_checkKey hk (hv.isKey h.sk w),run_findKey hk h1,hz,Result.andThen]
 .refine⟨e.val,by rw[h4];exact h5,?_⟩;rw[h4];simp[Instr.lookup,b5N hT,b7s hb,run_checkKey hk (hv.isKey h.sk w),run_findKey hk h1,Result.andThen]
theorem Xu{α β:Type}(f:α->Option β)(k:α)(v:β):Mb f k v k=some v:=by simp[Mb]
theorem BA{α β:Type}(f:α->Option β)(k:α)(v:β){x:α}(h:x≠k):Mb f k v x=f x:=by simp[Mb,h]
theorem Mi{α:Type}{R:α->α->Prop}{a b:α}:∀ {l:List α} {j:Nat},l.Pairwise R->l[j]?=some a->(∀ x,R a x->R b x)->(∀ x,R x a->R x b)->(l.set j b).Pairwise R
 | [],j,h,hj,h1,h2=>by simp at hj
 | y::ys,0,h,hj,h1,h2=>by
  simp only[b8y,b4L] at hj;subst hj;obtain⟨k1,k2⟩:=b7G.1 h;exact b7G.2 ⟨λ x hx=>h1 x (k1 x hx),k2⟩
 | y::ys,j+1,h,hj,h1,h2=>by
  obtain⟨k1,k2⟩:=b7G.1 h;simp only[List.getElem?_cons_succ] at hj;refine b7G.2 ⟨λ x hx=>?_,Mi k2 hj h1 h2⟩;rcases List.mem_or_eq_of_mem_set hx with hx|rfl
  .exact k1 x hx
  .exact h2 y (k1 a (b6t hj))
theorem OM.store(h:OM m es)(hT:P.underlying T=some (.map kT eT))(hk:P.underlying kT=some (descOf m.κ))(hb:w.heap[b]?=some (.map es clock))
  {k:m.κ.den} {v:Value} (hv:xb m.κ k v) {x:m.ε.den} {u:Value} (hu:xb m.ε x u) (hn:m.n<1000000000) :
  ∃ es' Vg,(Instr.mapUpdate T (.map (some b)) v u).run P w = .ok () { w with heap:=w.heap.setIfInBounds b (.map es' Vg) }/\OM ⟨m.κ,m.ε,Mb m.f k x,TS (m.f k) m.n⟩ es':=by
 have hK:=hv.isKey h.sk w;rcases h.found hv w with ⟨h1,h2,h3⟩|⟨j,e,y,h1,h2,h3,h4,h5⟩
 .refine⟨es.push ⟨v,u,clock⟩,clock+1,?_,?_⟩
  .simp[Instr.mapUpdate,b5N hT,b7s hb,run_checkKey hk hK,run_findKey hk h1,run_setObj_map _ hb,Result.andThen]
  .refine⟨h.sk,h.se,?_,by simp[TS,h3];omega,?_,?_,?_⟩
   .simp[TS,h3,h.len]
   .simp only[b8l];refine List.pairwise_append.2 ⟨h.nd,by simp,λ a ha b' cA=>?_⟩;simp only[b5t] at cA;subst cA;exact h2 a ha
   .intro e he;simp only[b8l,b4Q,b5t] at he;rcases he with he|rfl
    .obtain⟨k',v',k1,k2,k3⟩:=h.ent e he;refine⟨k',v',k1,k2,?_⟩;show Mb m.f k x k'=some v';rw[BA _ _ _ (λ e1=>h2 e he ((e1 ▸ k1).inj h.sk hv w))];exact k3
    .exact⟨k,x,hv,hu,Xu _ _ _⟩
   .intro k' v' hf;by_cases hkk:k'=k
    .exact⟨⟨v,u,clock⟩,by simp,by rw[hkk];exact hv⟩
    .have hf':m.f k'=some v':=by rw[<-BA m.f k x hkk];exact hf
     obtain⟨e,he,hke⟩:=h.all k' v' hf';exact⟨e,by simp only[b8l,b4Q];exact .inl he,hke⟩
 .have hj:es[j]?=some e:=by simpa using h2
  have a0A:(es.modify j (λ e'=>{ e' with key:=v,val:=u })).toList=es.toList.set j { e with key:=v,val:=u }:=by
   rw[Array.toList_modify];apply b7J;intro i;simp only[List.getElem?_modify,b7K];by_cases DA:j=i
   .subst DA;have hl:=(b5K.1 h2).1;simp only[b5u,b5u hl];rw[h2];rfl
   .simp[DA]
  refine⟨es.modify j (λ e'=>{ e' with key:=v,val:=u }),clock,?_,?_⟩
  .simp[Instr.mapUpdate,b5N hT,b7s hb,run_checkKey hk hK,run_findKey hk h1,hj,h3,run_keyThatStays hK,run_setObj_map _ hb,Result.andThen]
  .have oth:∀ x'∈es.toList.set j { e with key:=v,val:=u },x'={ e with key:=v,val:=u }\/(x'∈es.toList/\x'.key≠v):=by
    intro x' hx;obtain⟨i,hi,ex⟩:=b7C hx;rw[List.getElem_set] at ex;split at ex
    .exact .inl ex.symm
    .rename_i eR;have nU:i<es.toList.length:=by simpa using hi
     refine .inr ⟨ex ▸ b6h nU,λ hxv=>?_⟩;have Yz:j<es.toList.length:=(b5K.1 h2).1;have hje:es.toList[j]=e:=(b5K.1 h2).2;have hpw:=List.pairwise_iff_getElem.1 h.nd;rcases Nat.lt_or_gt_of_ne eR with hl|hl
     .exact hpw j i Yz nU hl (by rw[hje,ex,h3,hxv])
     .exact hpw i j nU Yz hl (by rw[hje,ex,h3,hxv])
   refine⟨h.sk,h.se,?_,by simp[TS,h4];omega,?_,?_,?_⟩
   .simp[TS,h4,h.len]
   .rw[a0A];exact Mi h.nd h2 (λ x' hx=>by rw[<-h3];exact hx) (λ x' hx=>by rw[<-h3];exact hx)
   .intro e' Dy;rw[a0A] at Dy;rcases oth e' Dy with rfl|⟨he,eR⟩
    .exact⟨k,x,hv,hu,Xu _ _ _⟩
    .obtain⟨k',v',k1,k2,k3⟩:=h.ent e' he;refine⟨k',v',k1,k2,?_⟩;show Mb m.f k x k'=some v';rw[BA _ _ _ (λ e1=>eR ((e1 ▸ k1).inj h.sk hv w))];exact k3
   .intro k' v' hf;by_cases hkk:k'=k
    .refine⟨{ e with key:=v,val:=u },?_,(show k'=k from hkk).symm ▸ hv⟩;rw[a0A];exact List.mem_iff_getElem.2 ⟨j,by simpa using (List.getElem?_eq_some_iff.1 h2).1,by simp⟩
    .have hf':m.f k'=some v':=by rw[<-BA m.f k x hkk];exact hf
     obtain⟨e',Dy,hke⟩:=h.all k' v' hf';refine⟨e',?_,hke⟩;rw[a0A];obtain⟨i,hi,ex⟩:=b7C Dy;have DA:j≠i:=by
      intro e1;subst e1;have hje:es.toList[j]=e:=(b5K.1 h2).2;have:e'=e:=ex ▸ hje;subst this;exact hkk ((h3 ▸ hke).val h.sk hv w)
     exact List.mem_iff_getElem.2 ⟨i,by simpa using hi,by rw[List.getElem_set_ne DA];exact ex⟩
end
end Go.Proofs.YtmjfpcajohhbeaaGreatDoor

namespace Go.Proofs.YtmjfpcajohhbeaaGreatDoor
def aT{α β:Type}(R:α->β->Prop):List α->List β->Prop
 | [],[]=>True
 | a::Z9,b::bs=>R a b/\aT R Z9 bs
 | _,_=>False
theorem aT.length{α β:Type}{R:α->β->Prop}:∀ {Z9:List α} {bs:List β},aT R Z9 bs->Z9.length=bs.length
 | [],[],_=>rfl
 | _::_,_::_,h=>by simp[aT.length h.2]
 | [],_::_,h=>h.elim
 | _::_,[],h=>h.elim
theorem aT.imp{α β:Type}{R R':α->β->Prop}:∀ {Z9:List α} {bs:List β},aT R Z9 bs->(∀ a b,a∈Z9->R a b->R' a b)->aT R' Z9 bs
 | [],[],_,_=>trivial
 | _::_,_::_,h,k=>⟨k _ _ (by simp) h.1,aT.imp h.2 λ a b ha=>k a b (by simp[ha])⟩
 | [],_::_,h,_=>h.elim
 | _::_,[],h,_=>h.elim
theorem aT.at_{α β:Type}{R:α->β->Prop}:∀ {Z9:List α} {bs:List β},aT R Z9 bs->∀ (i:Nat) a,Z9[i]?=some a->∃ b,bs[i]?=some b/\R a b
 | [],[],_,i,a,h=>by simp at h
 | _::_,b::_,h,0,a,hi=>by simp at hi;subst hi;exact⟨b,rfl,h.1⟩
 | _::_,_::_,h,i+1,a,hi=>by simpa using aT.at_ h.2 i a (by simpa using hi)
 | [],_::_,h,_,_,_=>h.elim
 | _::_,[],h,_,_,_=>h.elim
theorem aT.append{α β:Type}{R:α->β->Prop}:∀ {Z9:List α} {bs:List β} {as' bs'},aT R Z9 bs->aT R as' bs'->aT R (Z9++as') (bs++bs')
 | [],[],_,_,_,k=>k
 | _::_,_::_,_,_,h,k=>⟨h.1,aT.append h.2 k⟩
 | [],_::_,_,_,h,_=>h.elim
 | _::_,[],_,_,h,_=>h.elim
theorem aT.take{α β:Type}{R:α->β->Prop}(n:Nat):∀ {Z9:List α} {bs:List β},aT R Z9 bs->aT R (Z9.take n) (bs.take n):=by
 induction n with
 | zero=>intro Z9 bs _;simp[aT]
 | succ n ih =>
  intro Z9 bs h;match Z9,bs,h with
  | [],[],_=>simp[aT]
  | _::_,_::_,h=>exact⟨h.1,ih h.2⟩
theorem aT.drop{α β:Type}{R:α->β->Prop}(n:Nat):∀ {Z9:List α} {bs:List β},aT R Z9 bs->aT R (Z9.drop n) (bs.drop n):=by
 induction n with
 | zero=>intro Z9 bs h;simpa using h
 | succ n ih =>
  intro Z9 bs h;match Z9,bs,h with
  | [],[],_=>simp[aT]
  | _::_,_::_,h=>exact ih h.2
theorem aT.dZ{α β γ:Type}{R:γ->β->Prop}(f:α->γ):∀ {Z9:List α} {bs:List β},aT (λ a b=>R (f a) b) Z9 bs->aT R (Z9.map f) bs
 | [],[],_=>trivial
 | _::_,_::_,h=>⟨h.1,aT.dZ f h.2⟩
 | [],_::_,h=>h.elim
 | _::_,[],h=>h.elim
theorem aT.of_map{α β γ:Type}{R:γ->β->Prop}(f:α->γ):∀ {Z9:List α} {bs:List β},aT R (Z9.map f) bs->aT (λ a b=>R (f a) b) Z9 bs
 | [],[],_=>trivial
 | _::_,_::_,h=>⟨h.1,aT.of_map f h.2⟩
 | [],_::_,h=>h.elim
 | _::_,[],h=>h.elim
theorem dq.dJ{w:World}{S:Nat->Prop}:∀ {vs:List TV} {cs:List Value},dq w S (vs.map TV.aP) cs↔aT (λ v x=>Rd w S v.aP [x]) vs cs
 | [],[]=>by simp[dq,aT]
 | [],_::_=>by simp[dq,aT]
 | v::vs,[]=>by simp[dq,aT]
 | v::vs,x::cs=>by
  simp only[b5J,dq,aT];constructor
  .rintro⟨y,r,h1,h2,h3⟩;simp only[b4X] at h1;obtain⟨rfl,rfl⟩:=h1;exact⟨h2,dq.dJ.1 h3⟩
  .rintro⟨h1,h2⟩;exact⟨x,cs,rfl,h1,dq.dJ.2 h2⟩
structure bD(X:Nat->Prop)(w w':World):Prop where
 os:w'.os=w.os
 tape:w'.tape=w.tape
 output:w'.output=w.output
 size:w.heap.size<=w'.heap.size
 block:∀ b,b<w.heap.size->¬ X b->w'.heap[b]?=w.heap[b]?
theorem bD.refl(X:Nat->Prop)(w:World):bD X w w:=⟨rfl,rfl,rfl,b5w _,λ _ _ _=>rfl⟩
theorem bD.trans{X Y:Nat->Prop}{a b c:World}(h:bD X a b)(k:bD Y b c)(hXY:∀ i,i<a.heap.size->Y i->X i):bD X a c :=
 ⟨k.os.trans h.os,k.tape.trans h.tape,k.output.trans h.output,b6x h.size k.size,
  λ i hi hx=>(k.block i (b5i hi h.size) (λ hy=>hx (hXY i hi hy))).trans (h.block i hi hx)⟩
structure Ctx where
 P:Program
 E:Env
 w0:World
 X:Nat->Prop
 S0:Nat->Prop
 R:Nat->Option Value
 Z:Nat->Prop
 RB:Nat->Option Nat
structure Gh where
 S:Nat->Prop
 η:Nat->Value
 φ:Nat->List Nat
def St(c:Ctx)(S:Nat->Prop)(b:Nat):Prop:=S b\/(b<c.w0.heap.size/\¬ c.X b/\¬ c.Z b)
def ef:Value->Option Nat
 | .pointer (some a)=>some a.block
 | .slice (some a) _ _=>some a.block
 | .map (some b)=>some b
 | _=>none
def dV(w:World)(S:Nat->Prop)(v:TV)(x:Value):Prop :=
 match v with
 | ⟨.st s,y⟩=>∃ cs,x = .agg cs.toArray/\Rd w S (s.aP y) cs
 | v=>Rd w S v.aP [x]
def Mo(w:World)(S:Nat->Prop):Arg->Value->Prop
 | .val v,x=>dV w S v x
 | .ref v,x=>∃ b o cs,x = .pointer (some ⟨b,o,none⟩)/\b<w.heap.size/\cf w b o cs/\Rd w S v.aP cs
 | .fn f,x=>x = .func (.func f) #[] #[]
 | .dc _,_=>False
 | .own _,_=>False
 | .box _,_=>False
def HS(w:World)(S:Nat->Prop):List TV->Value->Prop
 | [v],x=>dV w S v x
 | vs,x=>∃ l,x = .tuple l.toArray/\aT (dV w S) vs l
def Gok(w:World)(S:Nat->Prop):Prop:=∀ g∈a3G,S g/\∃ m,w.cell? ⟨g,0,none⟩=some (.int .i64 m)
def tm(w:World)(S:Nat->Prop):Prop:=(∀ b,S b->b<w.heap.size)/\Gok w S
theorem Gok.mono{w w':World}{S S':Nat->Prop}(h:Gok w S)(hS:∀ b,S b->S' b)(hw:∀ b,S b->w'.heap[b]?=w.heap[b]?):Gok w' S':=λ g hg=>by
 obtain⟨h1,m,h2⟩:=h g hg;exact⟨hS g h1,m,(b7w (a:=⟨g,0,none⟩) (hw g h1)).trans h2⟩
def ON(P:Program)(f:FuncId)(args:List Arg)(post:List TV->Prop):Prop :=
 ∀ (w:World) (S:Nat->Prop) (b9:List Value),tm w S->aT (Mo w S) args b9 ->
  Calls P f b9.toArray w λ e w'=>∃ x S' res,e = .returned x/\post res/\bD (λ _=>False) w w'/\(∀ b,b<w.heap.size->(S' b↔S b))/\(∀ b,S' b->b<w'.heap.size)/\HS w' S' res x
def iw (P:Program) (f:FuncId):Prop:=∃ fn,P.funcs[f]?=some fn/\fn.body.isNone=false/\(fn.name == "runtime.NumGoroutine")=false
def EG(P:Program)(f:FuncId)(eE:List Arg):(ps:List Ty)->(r:Ty)->FN ps r->List Arg->Prop
 | [],r,F,acc=>F.1->iw P f/\ON P f (acc++eE) (·=[⟨r,F.2⟩])
 | t::ts,r,F,acc=>∀ x,EG P f eE ts r (F x) (acc++[.val ⟨t,x⟩])
def Vw(c:Ctx)(S:Nat->Prop)(w:World):Arg->Value->Prop
 | .val v,x=>dV w S v x
 | .ref v,x=>∃ b o cs,x = .pointer (some ⟨b,o,none⟩)/\St c S b/\cf w b o cs/\Rd w S v.aP cs
 | .fn f,x=>x = .func (.func f) #[] #[]
 | .dc _,_=>False
 | .own _,_=>False
 | .box _,_=>False
def C1(c:Ctx)(G:Gh)(lk:Nat->Option aB)(w:World):AV->Value->Prop
 | .any,_=>True
 | .ep,x=>x=undef
 | .aH v,x=>v.τ.agg=false/\Rd w G.S v.aP [x]
 | .nil,x=>x = .slice none 0 0
 | .cX v,x=>∃ b o cs,x = .pointer (some ⟨b,o,none⟩)/\St c G.S b/\cf w b o cs/\Rd w G.S v.aP cs
 | .ptr id off,x=>∃ b,G.η id = .pointer (some ⟨b,0,none⟩)/\x = .pointer (some ⟨b,off,none⟩)/\gi (lk id)=true
 | .row id,x=>x=G.η id/\isRow (lk id)=true/\∃ a n m,x = .slice a n m
 | .eH id i off,x=>∃ b n cap e τ xs,G.η id = .slice (some ⟨b,0,none⟩) n cap/\lk id=some (.row e τ xs)/\i<xs.length/\x = .pointer (some ⟨b,i * τ.size+off,none⟩)
 | .fn f,x=>x = .func (.func f) #[] #[]
 | .av id,x=>cx (lk id)=true/\∃ l,G.η id = .tuple (x::l).toArray/\∃ a n m,x = .slice a n m
 | .sub id i off sz,x=>cx (lk id)=true/\∃ a n cap l,G.η id = .tuple (.slice a n cap::l).toArray/\i<n/\l[i * sz+off]?=some x/\∃ a n m,x = .slice a n m
 | .eP id i off sz,x=>cx (lk id)=true/\∃ b n cap l,G.η id = .tuple (.slice (some ⟨b,0,none⟩) n cap::l).toArray/\i<n/\x = .pointer (some ⟨b,i * sz+off,none⟩)
 | .iF v,x=>∃ f eE l,x = .func (.func f) #[] l.toArray/\EG c.P f eE v.ps v.r v.F []/\aT (Vw c G.S w) eE l
 | .mp id,x=>x=G.η id/\NM (lk id)=true/\∃ b,x = .map (some b)
 | .agg _,_=>False
 | .iS _,_=>False
 | .dc ..,_=>False
def TR(c:Ctx)(G:Gh)(lk:Nat->Option aB)(w:World):AV->Value->Prop
 | .any,_=>True
 | .aH v,x=>dV w G.S v x
 | .av id,x=>C1 c G lk w (.av id) x
 | .cX v,x=>C1 c G lk w (.cX v) x
 | .agg cs,x=>∃ l,x = .agg l.toArray/\aT (C1 c G lk w) cs l
 | _,_=>False
def CR(c:Ctx)(G:Gh)(lk:Nat->Option aB)(w:World):AV->Value->Prop
 | .aH v,x=>dV w G.S v x
 | .agg cs,x=>∃ l,x = .agg l.toArray/\aT (C1 c G lk w) cs l
 | v,x=>C1 c G lk w v x
def VR(c:Ctx)(G:Gh)(lk:Nat->Option aB)(w:World):AV->Value->Prop
 | .aH v,x=>dV w G.S v x
 | .agg cs,x=>∃ l,x = .agg l.toArray/\aT (C1 c G lk w) cs l
 | .iS vs,x=>∃ l,x = .tuple l.toArray/\aT (TR c G lk w) vs l
 | .dc f cs,x=>∃ l,x = .func (.func f) #[] l.toArray/\aT (CR c G lk w) cs l
 | v,x=>C1 c G lk w v x
def OR(c:Ctx)(G:Gh)(lk:Nat->Option aB)(w:World)(id:Nat):aB->Prop
 | .box cs=>∃ b l t,G.η id = .pointer (some ⟨b,0,none⟩)/\w.heap[b]?=some (.cells l.toArray t (0,0))/\aT (C1 c G lk w) cs l
 | .row e τ xs=>∃ l,w.ownsRow 0 e τ.size (G.η id) xs.length l/\dU w G.S (xs.map τ.aP) l/\xs.length<=140737488355328
 | .av τ xs=>True
 | .map m=>∃ b es clock,G.η id = .map (some b)/\w.heap[b]?=some (.map es clock)/\OM m es
def ie(w:World)(η:Value)(τ:Ty)(xs:List τ.den)(fp:List Nat):Prop :=
 ∃ v l a cap,η = .tuple (v::l).toArray/\v = .slice a xs.length cap/\xs.length<=cap/\cap<=maxLen/\xs.length<=140737488355328 /\
  ((xs=[]/\(a=none/\cap=0)/\fp=[])\/∃ b f t,a=some ⟨b,0,none⟩/\fp=b::f/\w.heap[b]?=some (.cells l.toArray t (0,0))/\l.length=cap * τ.size/\bR w (xs.map τ.aP) l f)
structure Ms(c:Ctx)(G:Gh)(lk:Nat->Option aB)(w:World):Prop where
 tr:∀ id τ xs,lk id=some (.av τ xs)->ie w (G.η id) τ xs (G.φ id)
 nd:∀ id τ xs,lk id=some (.av τ xs)->(G.φ id).Nodup
 pl:∀ id τ xs b,lk id=some (.av τ xs)->b∈G.φ id->(c.w0.heap.size<=b\/c.X b)/\¬ G.S b/\b<w.heap.size/\∀ i o,lk i=some o->ef (G.η i)≠some b
 ap:∀ id dy τ bf xs cS b,lk id=some (.av τ xs)->lk dy=some (.av bf cS)->b∈G.φ id->b∈G.φ dy->id=dy
def XGk(c:Ctx):Prop:=(∀ b,c.X b->b<c.w0.heap.size)/\∀ g∈a3G,c.S0 g/\¬ c.X g/\g<c.w0.heap.size/\∃ m,c.w0.cell? ⟨g,0,none⟩=some (.int .i64 m)
structure bw(c:Ctx)(G:Gh)(sl:Nat->AV)(n:Nat)(lk:Nat->Option aB)(a:Act)(w:World):Prop where
 defers:a.defers=[]
 size:a.tmps.size=n
 aR:bD c.X c.w0 w
 jf:XGk c
 dT:∀ b,b<c.w0.heap.size->¬ c.X b->(G.S b↔c.S0 b)
 sX:∀ b,c.S0 b->G.S b
 dB:∀ b,G.S b->b<w.heap.size
 aC:∀ i,VR c G lk w (sl i) (a.tmps.getD i undef)
 aJ:∀ id o,lk id=some o->OR c G lk w id o
 place:∀ id o b,lk id=some o->ef (G.η id)=some b->(c.w0.heap.size<=b\/c.X b)/\¬ G.S b/\b<w.heap.size
 apart:∀ id dy o o' b,lk id=some o->lk dy=some o'->ef (G.η id)=some b->ef (G.η dy)=some b->id=dy
 aL:Ms c G lk w
 root:∀ id v,c.R id=some v->cx (lk id)=true->∃ l,G.η id = .tuple (v::l).toArray
 ic:∀ id v,c.R id=some v->50<=id/\id<100
 dm:∀ id b,c.RB id=some b->gi (lk id)=true->G.η id = .pointer (some ⟨b,0,none⟩)
 eN:∀ id b,c.RB id=some b->400000<=id
theorem bw.sOk{c:Ctx}{G:Gh}{sl:Nat->AV}{n:Nat}{lk:Nat->Option aB}{a:Act}{w:World}(h:bw c G sl n lk a w):tm w G.S:=⟨h.dB,λ g hg=>by
 obtain⟨h1,h2,h3,m,h4⟩:=h.jf.2 g hg;exact⟨h.sX g h1,m,(b7w (a:=⟨g,0,none⟩) (h.aR.block g h3 h2)).trans h4⟩⟩
theorem bw.a7z{c:Ctx}{G:Gh}{sl:Nat->AV}{n:Nat}{lk:Nat->Option aB}{a:Act}{w:World}(h:bw c G sl n lk a w){fp:List Nat}(hn:∀ b∈fp,¬ G.S b):Gok w (λ b=>b<w.heap.size/\b∉fp) :=
 h.sOk.2.mono (λ b hb=>⟨h.dB b hb,λ q=>hn b q hb⟩) λ _ _=>rfl
def aj.sl(s:aj)(i:Nat):AV:=s.aC.getD i .any
def Inv(c:Ctx)(G:Gh)(s:aj)(a:Act)(w:World):Prop:=bw c G s.sl s.aC.length s.ah a w
theorem ti{o:Option aB}(h:isRow o=true):cx o=false:=by
 match o,h with
 | some (.row ..),_=>rfl
theorem Ma{o:Option aB}(h:NM o=true):cx o=false:=by
 match o,h with
 | some (.map _),_=>rfl
def eK(o o':Option aB):Prop :=
 (gi o=true->gi o'=true)/\(∀ e τ xs,o=some (.row e τ xs)->∃ e' cS,o'=some (.row e' τ cS)/\xs.length<=cS.length)/\(cx o=true->cx o'=true)/\(NM o=true->NM o'=true)
theorem eK.refl(o:Option aB):eK o o:=⟨id,λ e τ xs h=>⟨e,xs,h,b5w _⟩,id,id⟩
theorem eK.isRow{o o':Option aB}(h:eK o o')(hr:isRow o=true):YtmjfpcajohhbeaaGreatDoor.isRow o'=true:=by
 match o,hr with
 | some (.row e τ xs),_ =>
  obtain⟨e',cS,h1,_⟩:=h.2.1 e τ xs rfl;rw[h1];rfl
section
variable {c:Ctx} {G G':Gh} {lk lk':Nat->Option aB} {w w':World}
theorem dV.mono{v:TV}{x:Value}(h:dV w G.S v x)(hS:∀ b,G.S b->G'.S b)(hw:∀ b,G.S b->w'.heap[b]?=w.heap[b]?):dV w' G'.S v x:=by
 obtain⟨τ,y⟩:=v;cases τ with
 | st s =>
  obtain⟨cs,h1,h2⟩:=h;exact⟨cs,h1,Rd.aR hS hw _ h2⟩
 | _=>exact Rd.aR hS hw _ h
theorem Vw.mono{S S':Nat->Prop}{v:Arg}{x:Value}(h:Vw c S w v x)(hS:∀ b,S b->S' b)(hw:∀ b,St c S b->w'.heap[b]?=w.heap[b]?):Vw c S' w' v x:=by
 cases v with
 | val v=>exact dV.mono (G:=⟨S,λ _=>undef,λ _=>[]⟩) (G':=⟨S',λ _=>undef,λ _=>[]⟩) h hS (λ b hb=>hw b (.inl hb))
 | ref v =>
  obtain⟨b,o,cs,h1,h2,h3,h4⟩:=h;exact⟨b,o,cs,h1,h2.imp (hS b) id,h3.aR (hw b h2),Rd.aR hS (λ b hb=>hw b (.inl hb)) _ h4⟩
 | fn f=>exact h
 | dc v=>exact h
 | own v=>exact h
 | box k=>exact h
theorem C1.mono{v:AV}{x:Value}(h:C1 c G lk w v x)(hk:∀ id,v.refs id=true->eK (lk id) (lk' id)/\G'.η id=G.η id)
  (hS:∀ b,G.S b->G'.S b) (hw:∀ b,St c G.S b->w'.heap[b]?=w.heap[b]?):C1 c G' lk' w' v x:=by
 have hw':∀ b,G.S b->w'.heap[b]?=w.heap[b]?:=λ b hb=>hw b (.inl hb);cases v with
 | any=>trivial
 | ep=>exact h
 | aH v=>exact⟨h.1,Rd.aR hS hw' _ h.2⟩
 | nil=>exact h
 | cX v =>
  obtain⟨b,o,cs,h1,h2,h3,h4⟩:=h;exact⟨b,o,cs,h1,h2.imp (hS b) id,h3.aR (hw b h2),Rd.aR hS hw' _ h4⟩
 | ptr id off =>
  obtain⟨b,h1,h2,h3⟩:=h;obtain⟨k1,k2⟩:=hk id (by simp[AV.refs]);exact⟨b,k2.trans h1,h2,k1.1 h3⟩
 | row id =>
  obtain⟨h1,h2,h3⟩:=h;obtain⟨k1,k2⟩:=hk id (by simp[AV.refs]);exact⟨h1.trans k2.symm,k1.isRow h2,h3⟩
 | eH id i off =>
  obtain⟨b,n,cap,e,τ,xs,h1,h2,h3,h4⟩:=h;obtain⟨k1,k2⟩:=hk id (by simp[AV.refs]);obtain⟨e',cS,k3,k4⟩:=k1.2.1 e τ xs h2;exact⟨b,n,cap,e',τ,cS,k2.trans h1,k3,by omega,h4⟩
 | fn f=>exact h
 | av id =>
  obtain⟨h1,l,h2,h3⟩:=h;obtain⟨k1,k2⟩:=hk id (by simp[AV.refs]);exact⟨k1.2.2.1 h1,l,k2.trans h2,h3⟩
 | sub id i off sz =>
  obtain⟨h1,a,n,cap,l,h2,h3⟩:=h;obtain⟨k1,k2⟩:=hk id (by simp[AV.refs]);exact⟨k1.2.2.1 h1,a,n,cap,l,k2.trans h2,h3⟩
 | eP id i off sz =>
  obtain⟨h1,b,n,cap,l,h2,h3⟩:=h;obtain⟨k1,k2⟩:=hk id (by simp[AV.refs]);exact⟨k1.2.2.1 h1,b,n,cap,l,k2.trans h2,h3⟩
 | iF v =>
  obtain⟨f,eE,l,h1,h2,h3⟩:=h;exact⟨f,eE,l,h1,h2,h3.imp λ u y _ hy=>hy.mono hS hw⟩
 | mp id =>
  obtain⟨h1,h2,h3⟩:=h;obtain⟨k1,k2⟩:=hk id (by simp[AV.refs]);exact⟨h1.trans k2.symm,k1.2.2.2 h2,h3⟩
 | agg cs=>exact h
 | iS vs=>exact h
 | dc f cs=>exact h
theorem my{id:Nat}:∀ {cs:List AV} {v:AV},v∈cs->v.refs id=true->AV.gl id cs=true
 | u::r,v,hm,hv=>by
  simp only[AV.gl];rcases b5h.1 hm with rfl|h
  .rw[hv]
  .split
   .rfl
   .exact my h hv
theorem CR.mono{v:AV}{x:Value}(h:CR c G lk w v x)(hk:∀ id,v.refs id=true->eK (lk id) (lk' id)/\G'.η id=G.η id)
  (hS:∀ b,G.S b->G'.S b) (hw:∀ b,St c G.S b->w'.heap[b]?=w.heap[b]?):CR c G' lk' w' v x:=by
 cases v with
 | aH v=>exact dV.mono h hS (λ b hb=>hw b (.inl hb))
 | agg cs =>
  obtain⟨l,h1,h2⟩:=h;exact⟨l,h1,h2.imp λ u y hu hy=>hy.mono (λ id aY=>hk id (by simp only[AV.refs];exact my hu aY)) hS hw⟩
 | any=>trivial
 | ep=>exact h
 | nil=>exact C1.mono (v := .nil) h hk hS hw
 | cX v=>exact C1.mono (v := .cX v) h hk hS hw
 | ptr i o=>exact C1.mono (v := .ptr i o) h hk hS hw
 | row i=>exact C1.mono (v := .row i) h hk hS hw
 | eH i k o=>exact C1.mono (v := .eH i k o) h hk hS hw
 | fn f=>exact C1.mono (v := .fn f) h hk hS hw
 | av i=>exact C1.mono (v := .av i) h hk hS hw
 | sub i k o z=>exact C1.mono (v := .sub i k o z) h hk hS hw
 | eP i k o z=>exact C1.mono (v := .eP i k o z) h hk hS hw
 | iF v=>exact C1.mono (v := .iF v) h hk hS hw
 | mp i=>exact C1.mono (v := .mp i) h hk hS hw
 | iS _=>exact h
 | dc _ _=>exact h
theorem VR.mono{v:AV}{x:Value}(h:VR c G lk w v x)(hk:∀ id,v.refs id=true->eK (lk id) (lk' id)/\G'.η id=G.η id)
  (hS:∀ b,G.S b->G'.S b) (hw:∀ b,St c G.S b->w'.heap[b]?=w.heap[b]?):VR c G' lk' w' v x:=by
 have hw':∀ b,G.S b->w'.heap[b]?=w.heap[b]?:=λ b hb=>hw b (.inl hb);cases v with
 | aH v=>exact dV.mono h hS hw'
 | agg cs =>
  obtain⟨l,h1,h2⟩:=h;exact⟨l,h1,h2.imp λ u y hu hy=>hy.mono (λ id aY=>hk id (by simp only[AV.refs];exact my hu aY)) hS hw⟩
 | iS vs =>
  obtain⟨l,h1,h2⟩:=h;refine⟨l,h1,h2.imp λ u y hu hy=>?_⟩;have kM:∀ id,u.refs id=true->eK (lk id) (lk' id)/\G'.η id=G.η id:=λ id aY=>hk id (by simp only[AV.refs];exact my hu aY);cases u with
  | any=>trivial
  | aH v=>exact dV.mono hy hS hw'
  | av i=>exact C1.mono (v := .av i) hy kM hS hw
  | cX v=>exact C1.mono (v := .cX v) hy kM hS hw
  | agg cs =>
   obtain⟨l,h1,h2⟩:=hy;exact⟨l,h1,h2.imp λ u y hu hy=>hy.mono (λ id aY=>kM id (by simp only[AV.refs];exact my hu aY)) hS hw⟩
  | _=>exact hy.elim
 | ep=>trivial
 | any=>trivial
 | nil=>exact C1.mono (v := .nil) h hk hS hw
 | cX v=>exact C1.mono (v := .cX v) h hk hS hw
 | ptr i o=>exact C1.mono (v := .ptr i o) h hk hS hw
 | row i=>exact C1.mono (v := .row i) h hk hS hw
 | eH i k o=>exact C1.mono (v := .eH i k o) h hk hS hw
 | fn f=>exact C1.mono (v := .fn f) h hk hS hw
 | av i=>exact C1.mono (v := .av i) h hk hS hw
 | sub i k o z=>exact C1.mono (v := .sub i k o z) h hk hS hw
 | eP i k o z=>exact C1.mono (v := .eP i k o z) h hk hS hw
 | iF v=>exact C1.mono (v := .iF v) h hk hS hw
 | mp i=>exact C1.mono (v := .mp i) h hk hS hw
 | dc f cs =>
  obtain⟨l,h1,h2⟩:=h;exact⟨l,h1,h2.imp λ u y hu hy=>hy.mono (λ id aY=>hk id (by simp only[AV.refs];exact my hu aY)) hS hw⟩
def aB.refs(id:Nat):aB->Bool
 | .box cs=>AV.gl id cs
 | .row .. => false
 | .av .. => false
 | .map .. => false
theorem sP{v:Value}{e:TypeId}{size n:Nat}{l:List Value}(h:w.ownsRow 0 e size v n l):v.ownBlock=ef v:=by
 rcases h.2 with ⟨rfl,_⟩|⟨g,cap,cur,rfl,_⟩<;>rfl
theorem Mh{e:TypeId}{size n:Nat}{v:Value}{l:List Value}(h:w.ownsRow 0 e size v n l)(hb:∀ b,ef v=some b->w'.heap[b]?=w.heap[b]?):w'.ownsRow 0 e size v n l:=by
 refine⟨h.1,h.2.imp id ?_⟩;rintro⟨g,cap,cur,rfl,h1,h2,h3⟩;exact⟨g,cap,cur,rfl,h1,by rw[hb g rfl];exact h2,h3⟩
theorem OR.mono{id:Nat}{o:aB}(h:OR c G lk w id o)(ec:G'.η id=G.η id)(hb:∀ b,ef (G.η id)=some b->w'.heap[b]?=w.heap[b]?)
  (hk:∀ j,o.refs j=true->eK (lk j) (lk' j)/\G'.η j=G.η j) (hS:∀ b,G.S b->G'.S b) (hw:∀ b,St c G.S b->w'.heap[b]?=w.heap[b]?):OR c G' lk' w' id o:=by
 cases o with
 | box cs =>
  obtain⟨b,l,t,h1,h2,h3⟩:=h;refine⟨b,l,t,ec.trans h1,?_,h3.imp λ u y hu hy=>hy.mono (λ j hj=>hk j (my hu hj)) hS hw⟩;rw[hb b (by rw[h1];rfl)];exact h2
 | row e τ xs =>
  obtain⟨l,h1,h2,h3⟩:=h;refine⟨l,?_,dU.aR hS (λ b hb=>hw b (.inl hb)) _ h2,h3⟩;rw[ec];exact Mh h1 hb
 | av τ xs=>trivial
 | map m =>
  obtain⟨b,es,clock,h1,h2,h3⟩:=h;exact⟨b,es,clock,ec.trans h1,by rw[hb b (by rw[h1];rfl)];exact h2,h3⟩
end
theorem ie.aR{w w':World}{η:Value}{τ:Ty}{xs:List τ.den}{fp:List Nat}(h:ie w η τ xs fp)(hw:∀ b∈fp,w'.heap[b]?=w.heap[b]?):ie w' η τ xs fp:=by
 obtain⟨v,l,a,cap,h1,h2,h3,h4,h5,h6⟩:=h;refine⟨v,l,a,cap,h1,h2,h3,h4,h5,h6.imp id ?_⟩;rintro⟨b,f,t,k1,rfl,k2,k0,k3⟩;exact⟨b,f,t,k1,rfl,by rw[hw b (by simp)];exact k2,k0,bR.aR _ k3 λ b hb=>hw b (by simp[hb])⟩
theorem bw.world{c:Ctx}{G:Gh}{sl:Nat->AV}{n:Nat}{lk:Nat->Option aB}{a:Act}{w w':World}{S':Nat->Prop}(h:bw c G sl n lk a w)
  (gh:bD (λ b=>c.w0.heap.size<=b\/c.X b) w w') (hS:∀ b,G.S b->S' b) (a7A:∀ b,b<w.heap.size->(S' b↔G.S b)) (hX:∀ b,c.S0 b->S' b) (hLt:∀ b,S' b->b<w'.heap.size)
  (hw:∀ b,St c G.S b->w'.heap[b]?=w.heap[b]?) (lF:∀ id o b,lk id=some o->ef (G.η id)=some b->w'.heap[b]?=w.heap[b]?) (Hx:∀ id τ xs b,lk id=some (.av τ xs)->b∈G.φ id->w'.heap[b]?=w.heap[b]?) :
  bw c ⟨S',G.η,G.φ⟩ sl n lk a w' where
 defers:=h.defers
 size:=h.size
 aR:=h.aR.trans gh λ i hi hy=>hy.elim (λ h=>by omega) id
 jf:=h.jf
 dT b hb hx:=(a7A b (b5i hb h.aR.size)).trans (h.dT b hb hx)
 sX:=hX
 dB:=hLt
 aC i:=(h.aC i).mono (λ id _=>⟨eK.refl _,rfl⟩) hS hw
 aJ id o ho:=(h.aJ id o ho).mono rfl (λ b hb=>lF id o b ho hb) (λ j _=>⟨eK.refl _,rfl⟩) hS hw
 place id o b ho hb:=by
  obtain⟨h1,h2,h3⟩:=h.place id o b ho hb;exact⟨h1,λ hs=>h2 ((a7A b h3).1 hs),b5i h3 gh.size⟩
 apart:=h.apart
 aL:={
  tr:=λ id τ xs ht=>(h.aL.tr id τ xs ht).aR λ b hb=>Hx id τ xs b ht hb
  nd:=h.aL.nd
  pl:=λ id τ xs b ht hb=>by
   obtain⟨h1,h2,h3,h4⟩:=h.aL.pl id τ xs b ht hb;exact⟨h1,λ hs=>h2 ((a7A b h3).1 hs),b5i h3 gh.size,h4⟩
  ap:=h.aL.ap }
 root:=h.root
 ic:=h.ic
 dm:=h.dm
 eN:=h.eN
theorem bw.drew{c:Ctx}{G:Gh}{sl:Nat->AV}{n:Nat}{lk:Nat->Option aB}{a:Act}{w:World}(h:bw c G sl n lk a w):bw c G sl n lk a w.drew :=
 h.world (S':=G.S) ⟨rfl,rfl,rfl,b5w _,λ _ _ _=>rfl⟩ (λ _ h=>h) (λ _ _=>b6P) h.sX h.dB (λ _ _=>rfl) (λ _ _ _ _ _=>rfl) (λ _ _ _ _ _ _=>rfl)
def jV(n:Nat)(sl:Nat->AV)(d:Option Nat)(v:AV)(i:Nat):AV:=if d=some i/\i<n then v else sl i
theorem er(a:Act)(d:Option Nat)(x:Value)(i:Nat):(a.put d x).tmps.getD i undef=if d=some i/\i<a.tmps.size then x else a.tmps.getD i undef:=by
 cases d with
 | none=>simp[Act.put]
 | some d =>
  simp only[Act.put,b4L];by_cases h:d=i
  .subst h;by_cases hl:d<a.tmps.size
   .simp[hl,b5I]
   .simp[hl,b5I,Array.setIfInBounds]
  .simp[h,b5I,b7Y]
theorem gO(a:Act)(d:Option Nat)(x:Value):(a.put d x).tmps.size=a.tmps.size:=by cases d<;>simp[Act.put]
theorem jO(a:Act)(d:Option Nat)(x:Value):(a.put d x).defers=a.defers:=by cases d<;>rfl
theorem bw.put{c:Ctx}{G:Gh}{sl:Nat->AV}{n:Nat}{lk:Nat->Option aB}{a:Act}{w:World}(h:bw c G sl n lk a w){d:Option Nat}{v:AV}{x:Value}(hv:VR c G lk w v x) :
  bw c G (jV n sl d v) n lk (a.put d x) w where
 defers:=(jO _ _ _).trans h.defers
 size:=(gO _ _ _).trans h.size
 aR:=h.aR
 jf:=h.jf
 dT:=h.dT
 sX:=h.sX
 dB:=h.dB
 aC i:=by
  rw[er,h.size,jV];split
  .exact hv
  .exact h.aC i
 aJ:=h.aJ
 place:=h.place
 apart:=h.apart
 aL:=h.aL
 root:=h.root
 ic:=h.ic
 dm:=h.dm
 eN:=h.eN
theorem bw.forget{c:Ctx}{G:Gh}{sl sl':Nat->AV}{n:Nat}{lk:Nat->Option aB}{a:Act}{w:World}(h:bw c G sl n lk a w)(hs:∀ i,sl' i=sl i\/sl' i = .any):bw c G sl' n lk a w where
 defers:=h.defers
 size:=h.size
 aR:=h.aR
 jf:=h.jf
 dT:=h.dT
 sX:=h.sX
 dB:=h.dB
 aC i:=by
  rcases hs i with e|e
  .rw[e];exact h.aC i
  .rw[e];trivial
 aJ:=h.aJ
 place:=h.place
 apart:=h.apart
 aL:=h.aL
 root:=h.root
 ic:=h.ic
 dm:=h.dm
 eN:=h.eN
theorem a2d(id:Nat)(v:AV):v.kill id=v\/v.kill id = .any:=by unfold AV.kill;split<;>simp
theorem Ft(id:Nat)(v:AV):(v.kill id).refs id=false:=by
 unfold AV.kill;split
 .rfl
 .assumption
theorem C1.kill{c:Ctx}{G:Gh}{lk:Nat->Option aB}{w:World}{v:AV}{x:Value}(h:C1 c G lk w v x)(id:Nat):C1 c G lk w (v.kill id) x:=by
 rcases a2d id v with e|e
 .rw[e];exact h
 .rw[e];trivial
theorem JO(id:Nat):∀ cs:List AV,AV.gl id (cs.map (AV.kill id))=false
 | []=>rfl
 | v::r=>by simp only[b5J,AV.gl,Ft];exact JO id r
theorem OR.kill{c:Ctx}{G:Gh}{lk:Nat->Option aB}{w:World}{i:Nat}{o:aB}(h:OR c G lk w i o)(id:Nat):OR c G lk w i (o.kill id):=by
 cases o with
 | box cs =>
  obtain⟨b,l,t,h1,h2,h3⟩:=h;exact⟨b,l,t,h1,h2,aT.dZ _ (h3.imp λ u y _ hy=>hy.kill id)⟩
 | row e τ xs=>exact h
 | av τ xs=>exact h
 | map m=>exact h
theorem Oq(id:Nat)(o:Option aB):eK o (o.map (aB.kill id)):=by
 refine⟨λ h=>?_,λ e τ xs h=>⟨e,xs,by rw[h];rfl,b5w _⟩,λ h=>?_,λ h=>?_⟩
 .match o,h with
  | some (.box cs),_=>rfl
 .match o,h with
  | some (.av τ xs),_=>rfl
 .match o,h with
  | some (.map m),_=>rfl
theorem jH{id:Nat}{o:Option aB}{τ:Ty}{xs:List τ.den}(h:o.map (aB.kill id)=some (.av τ xs)):o=some (.av τ xs):=by
 match o,h with
 | some (.av bf cS),h=>exact h
 | some (.box _),h=>cases h
 | some (.row ..),h=>cases h
theorem Ms.sub{c:Ctx}{G:Gh}{lk lk':Nat->Option aB}{w:World}(h:Ms c G lk w)(ht:∀ id τ xs,lk' id=some (.av τ xs)->lk id=some (.av τ xs))(ho:∀ i o,lk' i=some o->∃ o',lk i=some o'):Ms c G lk' w where
 tr id τ xs k:=h.tr id τ xs (ht id τ xs k)
 nd id τ xs k:=h.nd id τ xs (ht id τ xs k)
 pl id τ xs b k hb:=by
  obtain⟨h1,h2,h3,h4⟩:=h.pl id τ xs b (ht id τ xs k) hb;exact⟨h1,h2,h3,λ i o hi=>(ho i o hi).elim λ o' cP=>h4 i o' cP⟩
 ap id dy τ bf xs cS b k k':=h.ap id dy τ bf xs cS b (ht id τ xs k) (ht dy bf cS k')
theorem bw.cq{c:Ctx}{G:Gh}{sl:Nat->AV}{n:Nat}{lk:Nat->Option aB}{a:Act}{w:World}(h:bw c G sl n lk a w)(id:Nat) :
  bw c G (λ i=>(sl i).kill id) n (λ i=>(lk i).map (aB.kill id)) a w:=by
 have h1:bw c G (λ i=>(sl i).kill id) n lk a w:=h.forget λ i=>a2d id (sl i);exact {
  defers:=h1.defers,size:=h1.size,aR:=h1.aR,jf:=h1.jf,dT:=h1.dT,sX:=h1.sX,dB:=h1.dB
  aC:=λ i=>(h1.aC i).mono (λ j _=>⟨Oq id _,rfl⟩) (λ _ h=>h) (λ _ _=>rfl)
  aJ:=λ i o ho=>by
   rw[b5L] at ho;obtain⟨o',cP,rfl⟩:=ho;exact ((h1.aJ i o' cP).kill id).mono rfl (λ _ _=>rfl) (λ j _=>⟨Oq id _,rfl⟩) (λ _ h=>h) (λ _ _=>rfl)
  place:=λ i o b ho hb=>by
   rw[b5L] at ho;obtain⟨o',cP,rfl⟩:=ho;exact h1.place i o' b cP hb
  apart:=λ i j o o' b ho cP hb cA=>by
   rw[b5L] at ho cP;obtain⟨p,hp,rfl⟩:=ho;obtain⟨q,hq,rfl⟩:=cP;exact h1.apart i j p q b hp hq hb cA
  aL:=h1.aL.sub (λ i τ xs k=>jH k) (λ i o k=>by
   rw[b5L] at k;obtain⟨p,hp,_⟩:=k;exact⟨p,hp⟩)
  root:=λ i v hr ht=>h1.root i v hr (by
   match hl:lk i,ht with
   | some (.av ..),_=>rfl
   | some (.box _),ht=>simp[hl,aB.kill,cx] at ht
   | some (.row ..),ht=>simp[hl,aB.kill,cx] at ht
   | none,ht=>simp[hl,cx] at ht)
  ic:=h1.ic
  dm:=λ i v hr ht=>h1.dm i v hr (by
   match hl:lk i,ht with
   | some (.box _),_=>rfl
   | some (.av ..),ht=>simp[hl,aB.kill,gi] at ht
   | some (.row ..),ht=>simp[hl,aB.kill,gi] at ht
   | none,ht=>simp[hl,gi] at ht)
  eN:=h1.eN }
theorem bw.a9w{c:Ctx}{G:Gh}{sl:Nat->AV}{n:Nat}{lk:Nat->Option aB}{a:Act}{w:World}(h:bw c G sl n lk a w)(id:Nat)
  (hs:∀ i,(sl i).refs id=false) (ho:∀ i o,lk i=some o->i≠id->o.refs id=false):bw c G sl n (λ i=>if i=id then none else lk i) a w:=by
 have eU:∀ j,j≠id->eK (lk j) ((λ i=>if i=id then none else lk i) j):=λ j hj=>by simp only[b4Z hj];exact eK.refl _
 exact {
  defers:=h.defers,size:=h.size,aR:=h.aR,jf:=h.jf,dT:=h.dT,sX:=h.sX,dB:=h.dB
  aC:=λ i=>(h.aC i).mono (λ j hj=>⟨eU j (λ e=>by subst e;rw[hs i] at hj;cases hj),rfl⟩) (λ _ h=>h) (λ _ _=>rfl)
  aJ:=λ i o cG=>by
   by_cases hi:i=id
   .simp[hi] at cG
   .simp only[b4Z hi] at cG;exact (h.aJ i o cG).mono rfl (λ _ _=>rfl) (λ j hj=>⟨eU j (λ e=>by subst e;rw[ho i o cG hi] at hj;cases hj),rfl⟩) (λ _ h=>h) (λ _ _=>rfl)
  place:=λ i o b cG hb=>by
   by_cases hi:i=id
   .simp[hi] at cG
   .simp only[b4Z hi] at cG;exact h.place i o b cG hb
  apart:=λ i j o o' b cG NG hb cA=>by
   by_cases hi:i=id
   .simp[hi] at cG
   .by_cases hj:j=id
    .simp[hj] at NG
    .simp only[b4Z hi] at cG;simp only[b4Z hj] at NG;exact h.apart i j o o' b cG NG hb cA
  aL:=h.aL.sub (λ i τ xs k=>by
   by_cases hi:i=id
   .simp[hi] at k
   .simpa only[if_neg hi] using k) (λ i o k=>by
   by_cases hi:i=id
   .simp[hi] at k
   .exact⟨o,by simpa only[if_neg hi] using k⟩)
  root:=λ i v hr ht=>h.root i v hr (by
   by_cases hi:i=id
   .simp[hi,cx] at ht
   .simpa only[if_neg hi] using ht)
  ic:=h.ic
  dm:=λ i v hr ht=>h.dm i v hr (by
   by_cases hi:i=id
   .simp[hi,gi] at ht
   .simpa only[if_neg hi] using ht)
  eN:=h.eN }
theorem bw.newObj{c:Ctx}{G:Gh}{sl:Nat->AV}{n:Nat}{lk:Nat->Option aB}{a:Act}{w:World}(h:bw c G sl n lk a w)(id:Nat)(o:aB)(x:Value)
  (aY:lk id=none) (hs:∀ i,(sl i).refs id=false) (ho:∀ i o,lk i=some o->o.refs id=false) (hor:o.refs id=false)
  (rC:OR c ⟨G.S,λ i=>if i=id then x else G.η i,G.φ⟩ (λ i=>if i=id then some o else lk i) w id o)
  (R3:cx (some o)=false) (bK:gi (some o)=false\/id<400000) (jA:∀ b,ef x=some b->(c.w0.heap.size<=b\/c.X b)/\¬ G.S b/\b<w.heap.size/\(∀ i o',lk i=some o'->ef (G.η i)≠some b)/\∀ j τ xs,lk j=some (.av τ xs)->b∉G.φ j) :
  bw c ⟨G.S,λ i=>if i=id then x else G.η i,G.φ⟩ sl n (λ i=>if i=id then some o else lk i) a w:=by
 have eU:∀ j,j≠id->eK (lk j) ((λ i=>if i=id then some o else lk i) j)/\(if j=id then x else G.η j)=G.η j:=λ j hj=>by simp only[b4Z hj];exact⟨eK.refl _,ae⟩
 exact {
  defers:=h.defers,size:=h.size,aR:=h.aR,jf:=h.jf,dT:=h.dT,sX:=h.sX,dB:=h.dB
  aC:=λ i=>(h.aC i).mono (λ j hj=>eU j (λ e=>by subst e;rw[hs i] at hj;cases hj)) (λ _ h=>h) (λ _ _=>rfl)
  aJ:=λ i o' cG=>by
   by_cases hi:i=id
   .subst hi;simp only[b6M,b4L] at cG;subst cG;exact rC
   .simp only[b4Z hi] at cG;exact (h.aJ i o' cG).mono (by simp only[b4Z hi]) (λ _ _=>rfl) (λ j hj=>eU j (λ e=>by subst e;rw[ho i o' cG] at hj;cases hj)) (λ _ h=>h) (λ _ _=>rfl)
  place:=λ i o' b cG hb=>by
   by_cases hi:i=id
   .simp only[b5u hi] at hb;obtain⟨h1,h2,h3,_⟩:=jA b hb;exact⟨h1,h2,h3⟩
   .simp only[b4Z hi] at cG hb;exact h.place i o' b cG hb
  apart:=λ i j o1 o2 b cG NG hb cA=>by
   by_cases hi:i=id
   .by_cases hj:j=id
    .rw[hi,hj]
    .simp only[b4Z hj] at NG cA;simp only[b5u hi] at hb;exact absurd cA ((jA b hb).2.2.2.1 j o2 NG)
   .by_cases hj:j=id
    .simp only[b4Z hi] at cG hb;simp only[b5u hj] at cA;exact absurd hb ((jA b cA).2.2.2.1 i o1 cG)
    .simp only[b4Z hi] at cG hb;simp only[b4Z hj] at NG cA;exact h.apart i j o1 o2 b cG NG hb cA
  aL:=by
   have hold:∀ j τ xs,(if j=id then some o else lk j)=some (.av τ xs)->j≠id/\lk j=some (.av τ xs):=λ j τ xs k=>by
    by_cases hj:j=id
    .rw[b5u hj] at k;cases k;cases R3
    .rw[b4Z hj] at k;exact⟨hj,k⟩
   exact {
    tr:=λ j τ xs k=>by
     obtain⟨h1,h2⟩:=hold j τ xs k;simp only[b4Z h1];exact h.aL.tr j τ xs h2
    nd:=λ j τ xs k=>h.aL.nd j τ xs (hold j τ xs k).2
    pl:=λ j τ xs b k hb=>by
     obtain⟨h1,h2,h3,h4⟩:=h.aL.pl j τ xs b (hold j τ xs k).2 hb;refine⟨h1,h2,h3,λ i p xg=>?_⟩;by_cases hi:i=id
     .simp only[b5u hi];exact λ e=>(jA b e).2.2.2.2 j τ xs (hold j τ xs k).2 hb
     .simp only[b4Z hi] at xg ⊢;exact h4 i p xg
    ap:=λ j j' τ bf xs cS b k k'=>h.aL.ap j j' τ bf xs cS b (hold j τ xs k).2 (hold j' bf cS k').2 }
  root:=λ i v hr ht=>by
   by_cases hi:i=id
   .simp only[b5u hi] at ht;rw[R3] at ht;cases ht
   .simp only[b4Z hi] at ht ⊢;exact h.root i v hr ht
  ic:=h.ic
  dm:=λ i v hr ht=>by
   by_cases hi:i=id
   .subst hi;rcases bK with bK|bK
    .simp only[b6M] at ht;rw[bK] at ht;cases ht
    .have:=h.eN i v hr;omega
   .simp only[b4Z hi] at ht ⊢;exact h.dm i v hr ht
  eN:=h.eN }
theorem bw.a0O{c:Ctx}{G:Gh}{sl:Nat->AV}{n:Nat}{lk:Nat->Option aB}{a:Act}{w w':World}(h:bw c G sl n lk a w)(id:Nat)(o o':aB)(b:Nat)(aY:lk id=some o)(hb:ef (G.η id)=some b)
  (eU:eK (some o) (some o')) (R3:cx (some o')=false) (hw:∀ k,k≠b->w'.heap[k]?=w.heap[k]?) (hos:w'.os=w.os) (a3P:w'.tape=w.tape) (ZF:w'.output=w.output) (R5:w'.heap.size=w.heap.size)
  (rC:OR c G (λ i=>if i=id then some o' else lk i) w' id o'):bw c G sl n (λ i=>if i=id then some o' else lk i) a w':=by
 obtain⟨hp1,hp2,hp3⟩:=h.place id o b aY hb;have cw:∀ k,St c G.S k->w'.heap[k]?=w.heap[k]?:=λ k hk=>hw k λ e=>by
  subst e;rcases hk with hk|hk
  .exact hp2 hk
  .exact hp1.elim (λ q=>by omega) hk.2.1
 have hs:∀ j,eK (lk j) ((λ i=>if i=id then some o' else lk i) j):=λ j=>by
  by_cases hj:j=id
  .subst hj;simp only[b6M];rw[aY];exact eU
  .simp only[b4Z hj];exact eK.refl _
 exact {
  defers:=h.defers,size:=h.size
  aR:=h.aR.trans (Y:=λ k=>c.w0.heap.size<=k\/c.X k) ⟨hos,a3P,ZF,Nat.le_of_eq R5.symm,λ k _ hx=>hw k λ e=>by subst e;exact hx hp1⟩ λ i hi hy=>hy.elim (λ h=>by omega) (λ h=>h)
  jf:=h.jf,dT:=h.dT,sX:=h.sX
  dB:=λ k hk=>by rw[R5];exact h.dB k hk
  aC:=λ i=>(h.aC i).mono (λ j _=>⟨hs j,rfl⟩) (λ _ h=>h) cw
  aJ:=λ i p hp=>by
   by_cases hi:i=id
   .subst hi;simp only[b6M,b4L] at hp;subst hp;exact rC
   .simp only[b4Z hi] at hp;exact (h.aJ i p hp).mono rfl (λ k hk=>hw k λ e=>by subst e;exact hi (h.apart i id p o _ hp aY hk hb)) (λ j _=>⟨hs j,rfl⟩) (λ _ h=>h) cw
  place:=λ i p k hp hk=>by
   rw[R5];by_cases hi:i=id
   .subst hi;exact h.place i o k aY hk
   .simp only[b4Z hi] at hp;exact h.place i p k hp hk
  apart:=λ i j p q k hp hq hk kM=>by
   by_cases hi:i=id
   .by_cases hj:j=id
    .rw[hi,hj]
    .simp only[b4Z hj] at hq;rw[hi] at hk ⊢;exact h.apart id j o q k aY hq hk kM
   .simp only[b4Z hi] at hp;by_cases hj:j=id
    .rw[hj] at kM ⊢;exact h.apart i id p o k hp aY hk kM
    .simp only[b4Z hj] at hq;exact h.apart i j p q k hp hq hk kM
  aL:=by
   have hold:∀ j τ xs,(if j=id then some o' else lk j)=some (.av τ xs)->lk j=some (.av τ xs):=λ j τ xs k=>by
    by_cases hj:j=id
    .rw[b5u hj] at k;cases k;cases R3
    .rwa [b4Z hj] at k
   exact {
    tr:=λ j τ xs k=>(h.aL.tr j τ xs (hold j τ xs k)).aR λ k' kM=>hw k' λ e=>by
     subst e;exact (h.aL.pl j τ xs _ (hold j τ xs k) kM).2.2.2 id o aY hb
    nd:=λ j τ xs k=>h.aL.nd j τ xs (hold j τ xs k)
    pl:=λ j τ xs b' k cA=>by
     obtain⟨h1,h2,h3,h4⟩:=h.aL.pl j τ xs b' (hold j τ xs k) cA;refine⟨h1,h2,by rw[R5];exact h3,λ i p xg=>?_⟩;by_cases hi:i=id
     .rw[hi];exact h4 id o aY
     .rw[b4Z hi] at xg;exact h4 i p xg
    ap:=λ j j' τ bf xs cS b' k k'=>h.aL.ap j j' τ bf xs cS b' (hold j τ xs k) (hold j' bf cS k') }
  root:=λ i v hr ht=>by
   by_cases hi:i=id
   .simp only[b5u hi] at ht;rw[R3] at ht;cases ht
   .simp only[b4Z hi] at ht;exact h.root i v hr ht
  ic:=h.ic
  dm:=λ i v hr ht=>by
   by_cases hi:i=id
   .subst hi;simp only[b6M] at ht;refine h.dm i v hr ?_;rw[aY];cases o with
    | box cs=>rfl
    | row e τ xs=>obtain⟨e',cS,q,_⟩:=eU.2.1 e τ xs rfl;rw[q] at ht;cases ht
    | av τ xs=>have h3:cx (some o')=true:=eU.2.2.1 rfl;rw[R3] at h3;cases h3
    | map m =>
     obtain⟨b1,_,_,k1,_⟩:=h.aJ i _ aY;match o',ht with
     | .box cs,_ =>
      obtain⟨b2,_,_,k2,_⟩:=rC;rw[k1] at k2;cases k2
   .simp only[b4Z hi] at ht;exact h.dm i v hr ht
  eN:=h.eN }
def Ac:Ty->Value->Bool
 | .int k, .int k' n=>decide (k=k')&&decide (n=0)
 | .bool, .bool b => !b
 | .str, .string s=>s.data.toList.isEmpty
 | .slice _, .slice none 0 0=>true
 | .ptr, .pointer none=>true
 | _,_=>false
def Rr:List Ty->List Value->Bool
 | [],[]=>true
 | t::ts,v::vs=>Ac t v&&Rr ts vs
 | _,_=>false
def BT(τ:Ty)(v:Value):Bool :=
 match τ,v with
 | .st s, .agg cs=>Rr s.tA cs.toList
 | .st _,_=>false
 | τ,v=>Ac τ v
def Vm(P:Program)(T:TypeId)(τ:Ty):Bool :=
 match P.info? T with
 | some i=>Nat.beq i.size τ.size&&(match i.zero with
  | some z=>BT τ z
  | none=>false)
 | none=>false
def Kb(E:Env)(s:aV):Nat->List Field->List Ty->Bool
 | _,[],[]=>true
 | i,f::fs,t::ts=>(match ah E.ty f.type with
   | some (τ,_)=>decide (τ=t)
   | none=>false)&&Nat.beq f.offset (s.fu i)&&Kb E s (i+1) fs ts
 | _,_,_=>false
def tj(P:Program)(E:Env)(T:TypeId)(τ:Ty)(b e:Nat):Bool :=
 Vm P T τ&&match τ with
  | .int k=>match P.underlying T with
   | some (.int k')=>decide (k=k')
   | _=>false
  | .bool=>match P.underlying T with
   | some .bool=>true
   | _=>false
  | .str=>match P.underlying T with
   | some .string=>true
   | _=>false
  | .slice t=>match P.underlying T with
   | some (.slice e')=>Nat.beq e e'&&(match ah E.ty e with
     | some (bf,_)=>decide (bf=t)
     | none=>false)&&(match P.info? e with
     | some i=>Nat.beq i.bytes b
     | none=>false)&&Vm P e t
   | _=>false
  | .st s=>match P.underlying T with
   | some (.struct fs)=>Kb E s 0 fs.toList s.fX
   | _=>false
  | .mv _=>false
  | .ptr=>match P.underlying T with
   | some (.pointer _)=>true
   | _=>false
def Xk(P:Program)(E:Env)(T:TypeId)(κ ε:Ty):Bool:=match P.underlying T with
 | some (.map k e)=>match ah E.ty k,ah E.ty e with
  | some (κ',_),some (ε',_)=>decide (κ'=κ)&&(decide (ε'=ε)&&(κ.key&&ε.key))
  | _,_=>false
 | _=>false
structure Info(P:Program)(T:TypeId)(τ:Ty):Prop where
 ex:∃ i z,P.info? T=some i/\i.size=τ.size/\i.zero=some z/\BT τ z=true
theorem a2c{P:Program}{T:TypeId}{τ:Ty}(h:Vm P T τ=true):Info P T τ:=by
 unfold Vm at h;split at h
 .rename_i i hi;simp only[b4S] at h;obtain⟨h1,h2⟩:=h;split at h2
  .rename_i z hz;exact⟨i,z,hi,b4O h1,hz,h2⟩
  .cases h2
 .cases h
def Ax(P:Program)(w:World)(S:Nat->Prop):Arg->Value->Prop
 | .dc v,x=>∃ f eE l,x = .func (.func f) #[] l.toArray/\EG P f eE v.ps v.r v.F []/\aT (Mo w S) eE l
 | a,x=>Mo w S a x
theorem Ax.of0{P:Program}{w:World}{S:Nat->Prop}{a:Arg}{x:Value}(h:Mo w S a x):Ax P w S a x:=by
 cases a with
 | dc v=>exact h.elim
 | own v=>exact h.elim
 | box k=>exact h.elim
 | _=>exact h
def gw(P:Program)(f:FuncId)(args:List Arg)(post:List TV->Prop):Prop :=
 ∀ (w:World) (S:Nat->Prop) (b9:List Value),tm w S->aT (Ax P w S) args b9 ->
  Calls P f b9.toArray w λ e w'=>∃ x S' res,e = .returned x/\post res/\bD (λ _=>False) w w'/\(∀ b,b<w.heap.size->(S' b↔S b))/\(∀ b,S' b->b<w'.heap.size)/\HS w' S' res x
def xH(w:World)(v:TV)(x:Value)(fp:List Nat):Prop :=
 match v with
 | ⟨.st s,y⟩=>∃ cs,x = .agg cs.toArray/\Ow w (s.aP y) cs fp
 | v=>Ow w v.aP [x] fp
def OP(w:World):List TV->List Value->List Nat->Prop
 | [],[],fp=>fp=[]
 | v::vs,x::xs,fp=>∃ f1 f2,fp=f1++f2/\xH w v x f1/\OP w vs xs f2
 | _,_,_=>False
def uz(w:World):List TV->Value->List Nat->Prop
 | [v],x,fp=>xH w v x fp
 | vs,x,fp=>∃ l,x = .tuple l.toArray/\OP w vs l fp
def uy(P:Program)(w:World)(S:Nat->Prop):List Arg->List Value->List Nat->Prop
 | [],[],fp=>fp=[]
 | a::Z9,x::xs,fp=>∃ f1 f2,fp=f1++f2/\(match a with
  | .own v=>xH w v x f1
  | a=>f1=[]/\Ax P w S a x)/\uy P w S Z9 xs f2
 | _,_,_=>False
def pT(P:Program)(f:FuncId)(args:List Arg)(res:List TV):Prop :=
 ∀ (w:World) (S:Nat->Prop) (b9:List Value) (fa:List Nat),tm w S->uy P w S args b9 fa->(fa=[]\/∀ a∈args,a.Oz=true)->fa.Nodup->(∀ b∈fa,b<w.heap.size/\¬ S b) ->
  Calls P f b9.toArray w λ e w'=>∃ x fp,e = .returned x/\bD (λ b=>b∈fa) w w'/\uz w' res x fp/\fp.Nodup/\∀ b∈fp,b∈fa\/(w.heap.size<=b/\b<w'.heap.size)
theorem uy.XJ{P:Program}{w:World}{S:Nat->Prop}:∀ {Z9:List Arg} {xs:List Value},aT (Ax P w S) Z9 xs->uy P w S Z9 xs []
 | [],[],_=>rfl
 | a::Z9,x::xs,h=>by
  refine⟨[],[],rfl,?_,uy.XJ h.2⟩;cases a with
  | own v=>exact h.1.elim
  | box k=>exact h.1.elim
  | _=>exact⟨rfl,h.1⟩
 | [],_::_,h=>h.elim
 | _::_,[],h=>h.elim
def J2(P:Program)(f:FuncId)(m:CI):Prop :=
 ∀ (x:m.τ.den) (k:Int) (w:World) (v:Value) (fp:List Nat),(m.g x k).1.ok->O k->Gok w (λ b=>b<w.heap.size/\b∉fp)->xH w ⟨m.τ,x⟩ v fp->fp.Nodup->(∀ b∈fp,b<w.heap.size) ->
  Calls P f #[v, .int .i64 k] w λ e w'=>e = .returned (.int .i64 (m.g x k).2.2)/\O (m.g x k).2.2/\bD (λ b=>b∈fp) w w'/\∃ mP,xH w' ⟨m.τ,(m.g x k).2.1⟩ v mP/\mP.Nodup/\∀ b∈mP,b∈fp\/(w.heap.size<=b/\b<w'.heap.size)
def jg(w:World)(S:Nat->Prop)(B:Nat->Nat):List CK->List TV->List Value->List Nat->Prop
 | [],[],[],fp=>fp=[]
 | .d τ::ks,v::ds,x::xs,fp=>(v.τ=τ/\τ.agg=false/\Rd w S v.aP [x])/\jg w S B ks ds xs fp
 | .o τ::ks,v::ds,x::xs,fp=>∃ f1 f2,fp=f1++f2/\(v.τ=τ/\τ.agg=false/\Ow w v.aP [x] f1)/\jg w S B ks ds xs f2
 | .p j::ks,ds,x::xs,fp=>x = .pointer (some ⟨B j,0,none⟩)/\jg w S B ks ds xs fp
 | _,_,_,_=>False
def fF(w:World)(S:Nat->Prop)(B:Nat->Nat):Nat->List (List CK)->List (List TV)->List Nat->Prop
 | _,[],[],fp=>fp=[]
 | k,ks::sh,ds::bN,fp=>∃ l t f1 f2,fp=f1++f2/\w.heap[B k]?=some (.cells l.toArray t (0,0))/\jg w S B ks ds l f1/\fF w S B (k+1) sh bN f2
 | _,_,_,_=>False
def b0p(w:World)(S X:Nat->Prop):Arg->Value->Prop
 | .val v,x=>dV w S v x
 | .ref v,x=>∃ b o cs,x = .pointer (some ⟨b,o,none⟩)/\b<w.heap.size/\¬ X b/\cf w b o cs/\Rd w S v.aP cs
 | .fn f,x=>x = .func (.func f) #[] #[]
 | _,_=>False
def Ta(P:Program)(w:World)(S X:Nat->Prop)(B:Nat->Nat):Arg->Value->Prop
 | .box k,x=>x = .pointer (some ⟨B k,0,none⟩)
 | .val v,x=>dV w S v x
 | .ref v,x=>∃ b o cs,x = .pointer (some ⟨b,o,none⟩)/\b<w.heap.size/\¬ X b/\cf w b o cs/\Rd w S v.aP cs
 | .fn f,x=>x = .func (.func f) #[] #[]
 | .dc v,x=>∃ f eE l,x = .func (.func f) #[] l.toArray/\EG P f eE v.ps v.r v.F []/\aT (b0p w S X) eE l
 | .own _,_=>False
def BX(n:Nat)(B:Nat->Nat)(fa:List Nat)(b:Nat):Prop:=b∈fa\/∃ k,k<n/\b=B k
def a0a(P:Program)(f:FuncId)(sh:List (List CK))(res:List TV)(dI:List (List TV))(w:World)(S:Nat->Prop)(B:Nat->Nat)(b9:List Value)(fa:List Nat):Prop :=
 Calls P f b9.toArray w λ e w'=>∃ x S' fp KU,e = .returned x/\bD (BX sh.length B fa) w w'/\(∀ b,S b->S' b)/\(∀ b,S' b->b<w'.heap.size)/\(∀ b,b<w.heap.size->¬ BX sh.length B fa b->(S' b↔S b)) /\
  uz w' res x fp/\fF w' S' B 0 sh dI KU/\(fp++KU).Nodup/\(∀ b∈fp++KU,(b∈fa\/(w.heap.size<=b/\b<w'.heap.size))/\¬ S' b/\∀ k,k<sh.length->B k≠b)/\∀ k,k<sh.length->¬ S' (B k)
def OO(P:Program)(f:FuncId)(sh:List (List CK))(args:List Arg)(bN:List (List TV))(res:List TV)(dI:List (List TV)):Prop :=
 ∀ (w:World) (S:Nat->Prop) (B:Nat->Nat) (b9:List Value) (fa:List Nat),tm w S->fF w S B 0 sh bN fa->fa.Nodup->(∀ b∈fa,b<w.heap.size/\¬ S b/\∀ k,k<sh.length->B k≠b) ->
  (∀ k,k<sh.length->B k<w.heap.size/\¬ S (B k))->(∀ j k,j<sh.length->k<sh.length->B j=B k->j=k)->aT (Ta P w S (BX sh.length B fa) B) args b9->a0a P f sh res dI w S B b9 fa
theorem gw.ok0{P:Program}{f:FuncId}{args:List Arg}{post:List TV->Prop}(h:gw P f args post):ON P f args post :=
 λ w S b9 hS ha=>h w S b9 hS (ha.imp λ _ _ _ hx => .of0 hx)
def a6T(w:World)(S T:Nat->Prop)(x:Value):a1k->Prop
 | .box cells=>∃ b l t,x = .pointer (some ⟨b,0,none⟩)/\w.heap[b]?=some (.cells l.toArray t (0,0))/\aT (λ v x=>v.τ.agg=false/\Rd w S v.aP [x]) cells l
 | .row e τ xs=>∃ l,w.ownsRow 0 e τ.size x xs.length l/\dU w S (xs.map τ.aP) l/\xs.length<=140737488355328
 | .res l=>∃ ys,x = .tuple ys.toArray/\aT (λ r x=>match r with
  | (true,v)=>∃ b o cs,x = .pointer (some ⟨b,o,none⟩)/\(S b\/T b)/\cf w b o cs/\Rd w S v.aP cs
  | (false,v)=>dV w S v x) l ys
def a3b(P:Program)(f:FuncId)(args:List Arg)(o:a1k):Prop :=
 ∀ (w:World) (S T:Nat->Prop) (b9:List Value),tm w S->(∀ x∈b9,∀ a:Addr,x = .pointer (some a)->T a.block)->aT (Ax P w S) args b9 ->
  Calls P f b9.toArray w λ e w'=>∃ x S',e = .returned x/\bD (λ _=>False) w w'/\(∀ k,k<w.heap.size->(S' k↔S k))/\(∀ k,S' k->k<w'.heap.size) /\
   (∀ b,ef x=some b->w.heap.size<=b/\b<w'.heap.size/\¬ S' b)/\a6T w' S' T x o
def J3(P:Program)(f:FuncId)(Z9:List Arg)(τ:Ty)(xs ys:List τ.den):Prop :=
 ∀ (w:World) (S:Nat->Prop) (b9:List Value) (v:Value) (fp:List Nat),tm w S->aT (Ta P w S (λ b=>b∈fp) (λ _=>0)) Z9 b9->xH w ⟨.slice τ,xs⟩ v fp->fp.Nodup->(∀ b∈fp,b<w.heap.size/\¬ S b) ->
  Calls P f (b9++[v]).toArray w λ e w'=>∃ r,e = .returned r/\bD (λ b=>b∈fp) w w'/\∃ mP,xH w' ⟨.slice τ,ys⟩ v mP/\mP.Nodup/\∀ b∈mP,b∈fp\/(w.heap.size<=b/\b<w'.heap.size)
structure bF(P:Program)(E:Env):Prop where
 ty:∀ T τ b e,ah E.ty T=some (τ,b,e)->tj P E T τ b e=true
 mty:∀ T κ ε,ah E.mty T=some (κ,ε)->Xk P E T κ ε=true
 pty:∀ T τ,ah E.pty T=some τ->True
 Pv:∀ f args pre res,E.Pv f args=some (pre,res)->pre.ok->iw P f/\gw P f args (·=res)
 Mg:∀ f args pre res,E.Mg f args=some (pre,res)->pre.ok->iw P f/\pT P f args res
 mark:∀ f m,E.mark f=some m->iw P f/\J2 P f m
 TT:∀ f args pre o,E.TT f args=some (pre,o)->pre.ok->iw P f/\a3b P f args o
 Yc:∀ f Z9 τ xs pre ys,E.Yc f Z9 τ xs=some (pre,ys)->pre.ok->iw P f/\J3 P f Z9 τ xs ys
 XZ:∀ f sk args bN pre res dI,E.sk f=some sk->E.XZ f args bN=some (pre,res,dI)->pre.ok->iw P f/\OO P f sk.sh args bN res dI
section
variable {P:Program} {E:Env} {T:TypeId} {τ:Ty} {b e:Nat}
theorem bF.info(hE:bF P E)(h:ah E.ty T=some (τ,b,e)):Info P T τ:=by
 have:=hE.ty _ _ _ _ h;unfold tj at this;simp only[Bool.and_eq_true] at this;exact a2c this.1
theorem bF.int(hE:bF P E){k:IntKind}(h:ah E.ty T=some (.int k,b,e)):P.underlying T=some (.int k):=by
 have:=hE.ty _ _ _ _ h;unfold tj at this;simp only[Bool.and_eq_true] at this;have h2:=this.2;split at h2
 .rename_i k' hk;rw[hk,b5E h2]
 .cases h2
theorem bF.bool(hE:bF P E)(h:ah E.ty T=some (.bool,b,e)):P.underlying T=some .bool:=by
 have:=hE.ty _ _ _ _ h;unfold tj at this;simp only[Bool.and_eq_true] at this;have h2:=this.2;split at h2
 .assumption
 .cases h2
theorem bF.str(hE:bF P E)(h:ah E.ty T=some (.str,b,e)):P.underlying T=some .string:=by
 have:=hE.ty _ _ _ _ h;unfold tj at this;simp only[Bool.and_eq_true] at this;have h2:=this.2;split at h2
 .assumption
 .cases h2
theorem bF.slice(hE:bF P E){t:Ty}(h:ah E.ty T=some (.slice t,b,e)) :
  P.underlying T=some (.slice e)/\(∃ b' e',ah E.ty e=some (t,b',e'))/\(∃ i z,P.info? e=some i/\i.size=t.size/\i.bytes=b/\i.zero=some z/\BT t z=true):=by
 have:=hE.ty _ _ _ _ h;unfold tj at this;simp only[Bool.and_eq_true] at this;have h2:=this.2;split at h2
 .rename_i e' Dy;simp only[b4S] at h2;obtain⟨⟨⟨h3,h4⟩,h5⟩,h6⟩:=h2;have h3:=b4O h3;subst h3;split at h4
  .rename_i bf r hl;have h4:=b5E h4;subst h4;obtain⟨i,z,hi,hs,hz,hzo⟩:=(a2c h6).ex;rw[hi] at h5;exact⟨Dy,⟨_,_,hl⟩,i,z,hi,hs,b4O h5,hz,hzo⟩
  .cases h4
 .cases h2
theorem PC{s:aV}:∀ (n:Nat) (fs:List Field) (ts:List Ty),Kb E s n fs ts=true->fs.length=ts.length /\
  ∀ i f,fs[i]?=some f->∃ t b e,ts[i]?=some t/\ah E.ty f.type=some (t,b,e)/\f.offset=s.fu (n+i)
 | _,[],[],_=>⟨rfl,by simp⟩
 | n,f::fs,t::ts,h=>by
  simp only[Kb,b4S] at h;obtain⟨⟨h1,h2⟩,h3⟩:=h;obtain⟨h4,h5⟩:=PC (n+1) fs ts h3;refine⟨by simp[h4],λ i g hi=>?_⟩;cases i with
  | zero =>
   simp at hi;subst hi;split at h1
   .rename_i τ r hl;have h1:=b5E h1;subst h1;exact⟨_,_,_,rfl,hl,b4O h2⟩
   .cases h1
  | succ i =>
   obtain⟨t',b',e',k1,k2,k3⟩:=h5 i g (by simpa using hi);exact⟨t',b',e',by simpa using k1,k2,by rw[k3];congr 1;omega⟩
 | _,[],_::_,h=>by cases h
 | _,_::_,[],h=>by cases h
theorem bF.st(hE:bF P E){s:aV}(h:ah E.ty T=some (.st s,b,e)) :
  ∃ fs,P.underlying T=some (.struct fs)/\fs.size=s.fX.length/\∀ i f,fs[i]?=some f->∃ t b e,s.fX[i]?=some t/\ah E.ty f.type=some (t,b,e)/\f.offset=s.fu i:=by
 have:=hE.ty _ _ _ _ h;unfold tj at this;simp only[Bool.and_eq_true] at this;have h2:=this.2;split at h2
 .rename_i fs hfs;obtain⟨h3,h4⟩:=PC 0 _ _ h2;refine⟨fs,hfs,by simpa using h3,λ i f hi=>?_⟩;obtain⟨t,b',e',k1,k2,k3⟩:=h4 i f (by simpa using hi);exact⟨t,b',e',k1,k2,by simpa using k3⟩
 .cases h2
theorem bF.a8w(hE:bF P E){t:Ty}(h:ah E.ty T=some (.mv t,b,e)):False:=by
 have:=hE.ty _ _ _ _ h;unfold tj at this;simp at this
theorem bF.ptr(hE:bF P E)(h:ah E.ty T=some (.ptr,b,e)):∃ t,P.underlying T=some (.pointer t):=by
 have:=hE.ty _ _ _ _ h;unfold tj at this;simp only[Bool.and_eq_true] at this;have h2:=this.2;split at h2
 .rename_i t ht;exact⟨t,ht⟩
 .cases h2
theorem bF.isAgg(hE:bF P E)(h:ah E.ty T=some (τ,b,e))(w:World):(isAgg T).run P w = .ok τ.agg w:=by
 cases τ with
 | int k=>simp[Go.isAgg,b5N (hE.int h)];rfl
 | bool=>simp[Go.isAgg,b5N (hE.bool h)];rfl
 | str=>simp[Go.isAgg,b5N (hE.str h)];rfl
 | slice t=>simp[Go.isAgg,b5N (hE.slice h).1];rfl
 | st s=>obtain⟨fs,h1,_⟩:=hE.st h;simp[Go.isAgg,b5N h1];rfl
 | mv t=>exact (hE.a8w h).elim
 | ptr=>obtain⟨t,ht⟩:=hE.ptr h;simp[Go.isAgg,b5N ht];rfl
theorem bF.sizeOf(hE:bF P E)(h:ah E.ty T=some (τ,b,e))(w:World):(sizeOf T).run P w = .ok τ.size w:=by
 obtain⟨i,z,h1,h2,_⟩:=(hE.info h).ex;simp[Go.sizeOf,typeInfo,h1,h2]
theorem Ty.jL{τ:Ty}(h:τ.agg=false):τ.size=1:=by cases τ<;>first|rfl|cases h
theorem aV.size_pos(s:aV):0<s.size:=by cases s<;>decide
theorem Ty.size_pos(τ:Ty):0<τ.size:=by cases τ<;>first|exact Nat.one_pos|exact aV.size_pos _
def Ls(τ:Ty)(cs:List Value):Value :=
 match τ with
 | .st _ => .agg cs.toArray
 | _=>cs.getD 0 undef
theorem jS(hE:bF P E)(h:ah E.ty T=some (τ,b,e)){w:World}{bk o:Nat}{cs:List Value}(hc:cf w bk o cs)(hl:cs.length=τ.size) :
  (Instr.loadAt T (.pointer (some ⟨bk,o,none⟩))).run P w = .ok (Ls τ cs) w:=by
 have Ul:∀ j v,cs[j]?=some v->w.cell? ((⟨bk,o,none⟩:Addr).add j)=some v:=λ j v hj=>by rw[b7f];exact hc j v hj
 simp only[Instr.loadAt,Instr.sureAddr,loadVar,b5x,b5A,b5r,hE.isAgg h];cases jB:τ.agg with
 | true =>
  simp only[b6M,b5x,hE.sizeOf h,b5r];rw[<-hl,run_loadCells_list w _ cs Ul];cases τ<;>first|rfl|cases jB
 | false =>
  have h1:cs.length=1:=hl.trans (Ty.jL jB);match cs,h1 with
  | [v],_ =>
   have:=hc 0 v rfl;simp only[b6R] at this;simp[run_load,this];cases τ<;>first|rfl|cases jB
end
section
variable {c:Ctx} {G:Gh} {lk:Nat->Option aB} {w:World}
theorem C1.fU{v:AV}{x:Value}(h:C1 c G lk w v x):VR c G lk w v x:=by
 cases v with
 | aH v =>
  obtain⟨τ,y⟩:=v;cases τ with
  | st s=>cases h.1
  | _=>exact h.2
 | agg cs=>exact h.elim
 | iS vs=>exact h.elim
 | dc f cs=>exact h.elim
 | _=>exact h
theorem VR.Z6{v:AV}{x:Value}(h:VR c G lk w v x)(hc:v.cell=true):C1 c G lk w v x:=by
 cases v with
 | aH v =>
  obtain⟨τ,y⟩:=v;cases τ with
  | st s=>cases hc
  | _=>exact⟨rfl,h⟩
 | agg cs=>cases hc
 | iS vs=>cases hc
 | dc f cs=>cases hc
 | any=>cases hc
 | _=>exact h
theorem jG{v:TV}(h:v.τ.agg=false):v.aP.leaf=true:=by
 obtain⟨τ,y⟩:=v;cases τ<;>first|rfl|exact SI _ _ _|cases h
theorem C1.leaf{v:AV}{x:Value}(h:C1 c G lk w v x)(hc:v.cell=true):x.oneCell'=true/\x.cells = #[x]:=by
 cases v with
 | any=>cases hc
 | ep=>cases hc
 | agg cs=>cases hc
 | iS cs=>cases hc
 | dc f cs=>cases hc
 | iF v=>cases hc
 | aH v =>
  obtain⟨y,h1,h2⟩:=Rd.vP (jG h.1) h.2;simp only[b4X,b5d] at h1;subst h1;exact⟨By h2,Qx h2⟩
 | nil=>rw[show x=_ from h];exact⟨rfl,rfl⟩
 | cX v=>obtain⟨b,o,cs,rfl,_⟩:=h;exact⟨rfl,rfl⟩
 | ptr i o=>obtain⟨b,_,rfl,_⟩:=h;exact⟨rfl,rfl⟩
 | row i=>obtain⟨_,_,a,n,m,rfl⟩:=h;exact⟨rfl,rfl⟩
 | av i=>obtain⟨_,_,_,a,n,m,rfl⟩:=h;exact⟨rfl,rfl⟩
 | sub i k o z=>obtain⟨_,_,_,_,_,_,_,_,a,n,m,rfl⟩:=h;exact⟨rfl,rfl⟩
 | eP i k o z=>cases hc
 | eH i k o=>obtain⟨b,n,cap,e,τ,xs,_,_,_,rfl⟩:=h;exact⟨rfl,rfl⟩
 | fn f=>rw[show x=_ from h];exact⟨rfl,rfl⟩
 | mp i=>obtain⟨_,_,b,rfl⟩:=h;exact⟨rfl,rfl⟩
theorem dV.cells{S:Nat->Prop}{v:TV}{x:Value}(h:dV w S v x):Rd w S v.aP x.cells.toList:=by
 obtain⟨τ,y⟩:=v;cases τ with
 | st s =>
  obtain⟨cs,rfl,h⟩:=h;show Rd w S (s.aP y) _;simpa [Value.cells] using h
 | _ =>
  obtain⟨z,h1,h2⟩:=Rd.vP (jG rfl) h;simp only[b4X,b5d] at h1;subst h1;rw[Qx h2];exact h
theorem dV.mk_{S:Nat->Prop}{v:TV}{cs:List Value}(h:Rd w S v.aP cs):dV w S v (Ls v.τ cs):=by
 obtain⟨τ,y⟩:=v;cases τ with
 | st s=>exact⟨cs,rfl,h⟩
 | _ =>
  obtain⟨z,rfl,h2⟩:=Rd.vP (jG rfl) h;exact h
def SX(G:Gh)(lk:Nat->Option aB)(b:Nat):Prop:=G.S b\/(∃ id e τ xs,lk id=some (.row e τ xs)/\ef (G.η id)=some b)\/∃ id τ xs,lk id=some (.av τ xs)/\b∈G.φ id
theorem bw.a2U{c:Ctx}{G:Gh}{sl:Nat->AV}{n:Nat}{lk:Nat->Option aB}{a:Act}{w:World}(h:bw c G sl n lk a w):tm w (SX G lk) :=
 ⟨λ b q=>by
  rcases q with hb|⟨id,e,τ,ys,aY,hb⟩|⟨id,τ,ys,aY,hb⟩
  .exact h.dB b hb
  .exact (h.place id _ b aY hb).2.2
  .exact (h.aL.pl id _ _ b aY hb).2.2.1,h.sOk.2.mono (λ _ q => .inl q) λ _ _=>rfl⟩
theorem SX.of{b:Nat}(h:G.S b):SX G lk b := .inl h
theorem a5F{id:Nat}{e:TypeId}{τ:Ty}{xs:List τ.den}(ho:OR c G lk w id (.row e τ xs))(aY:lk id=some (.row e τ xs)):Rd w (SX G lk) (Ty.aP (.slice τ) xs) [G.η id]:=by
 obtain⟨l,h1,h2,h3⟩:=ho;rcases h1.2 with ⟨hv,hn⟩|⟨g,cap,cur,hv,_,hh,YC,hcm,kj,htk⟩
 .have hx:xs=[]:=b5U hn;subst hx;exact⟨none,0,by simp[hv],by simp,by simp[maxLen],by simp, .inl rfl⟩
 .refine⟨some ⟨g,0,none⟩,cap,by simp[hv],by simpa using YC,hcm,by simpa using h3,?_⟩;refine .inr ⟨g,0,rfl, .inr (.inl ⟨id,e,τ,xs,aY,by rw[hv];rfl⟩),?_⟩;refine dU.row _ g 0 (h2.aR (λ _ h=>SX.of h) (λ _ _=>rfl)) λ j v hj=>?_;have:=h1.cells (g:=g) (by rw[hv];rfl) j v hj;rw[Addr.add_lit] at this;exact this
theorem ie.rd{S:Nat->Prop}{η:Value}{τ:Ty}{xs:List τ.den}{fp:List Nat}(h:ie w η τ xs fp){x:Value}{l:List Value}(hx:η = .tuple (x::l).toArray)(hS:∀ b∈fp,S b):Rd w S (Ty.aP (.slice τ) xs) [x]:=by
 obtain⟨v,l',a,cap,h1,h2,h3,h4,h5,h6⟩:=h;rw[hx] at h1;simp only[Value.tuple.injEq,List.toArray_inj,List.cons.injEq] at h1;obtain⟨rfl,rfl⟩:=h1;refine⟨a,cap,by simp[h2],by simpa using h3,h4,by simpa using h5,?_⟩;rcases h6 with ⟨rfl,_,_⟩|⟨b,f,t,rfl,rfl,k1,_,k2⟩
 .exact .inl rfl
 .exact .inr ⟨b,0,rfl,hS b (by simp),bR.rd _ (p:=[]) (by simpa using k1) k2 λ b hb=>hS b (by simp[hb])⟩
theorem a9i(Hx:Ms c G lk w){id:Nat}{τ:Ty}{xs:List τ.den}{x:Value}(aY:lk id=some (.av τ xs))(hx:C1 c G lk w (.av id) x):Rd w (SX G lk) (Ty.aP (.slice τ) xs) [x]:=by
 obtain⟨_,l,h2,_⟩:=hx;exact (Hx.tr id τ xs aY).rd h2 λ b hb => .inr (.inr ⟨id,τ,xs,aY,hb⟩)
theorem b1p(Hx:Ms c G lk w)(lF:∀ id o,lk id=some o->OR c G lk w id o){lk':Nat->Option aB}(ct:∀ id o,lk' id=some o->lk id=some o){τ:Ty}{v:AV}{x:Value}{y:τ.den}(h:jN lk' τ v=some y)
  (hv:C1 c G lk w v x):Rd w (SX G lk) (τ.aP y) [x]:=by
 cases v with
 | aH u =>
  have e:=TV.aU h;subst e;exact Rd.aR (λ _ h=>SX.of h) (λ _ _=>rfl) _ hv.2
 | nil =>
  cases τ with
  | slice t =>
   simp only[jN,b4L] at h;subst h;exact⟨none,0,by rw[show x=_ from hv];rfl,by simp,by simp[maxLen],by simp, .inl rfl⟩
  | _=>cases h
 | row id =>
  simp only[jN] at h;split at h
  .rename_i e bf xs hl;have e1:=TV.aU h;cases e1;have mV:=ct _ _ hl;rw[hv.1];exact a5F (lF _ _ mV) mV
  .cases h
 | av id =>
  simp only[jN] at h;split at h
  .rename_i bf xs hl;have e1:=TV.aU h;cases e1;exact a9i Hx (ct _ _ hl) hv
  .cases h
 | _=>cases h
theorem a9r{lk':Nat->Option aB}(fM:∀ id e τ xs,lk' id≠some (.row e τ xs))(R3:∀ id τ xs,lk' id≠some (.av τ xs)){τ:Ty}{v:AV}{x:Value}{y:τ.den}(h:jN lk' τ v=some y)(hv:C1 c G lk w v x):Rd w G.S (τ.aP y) [x]:=by
 cases v with
 | aH u =>
  have e:=TV.aU h;subst e;exact hv.2
 | nil =>
  cases τ with
  | slice t =>
   simp only[jN,b4L] at h;subst h;exact⟨none,0,by rw[show x=_ from hv];rfl,by simp,by simp[maxLen],by simp, .inl rfl⟩
  | _=>cases h
 | row id =>
  simp only[jN] at h;split at h
  .rename_i hl;exact absurd hl (fM _ _ _ _)
  .cases h
 | av id =>
  simp only[jN] at h;split at h
  .rename_i hl;exact absurd hl (R3 _ _ _)
  .cases h
 | _=>cases h
theorem Vf{τ:Ty}{v:AV}{x:Value}{y:τ.den}(h:jN (λ _=>none) τ v=some y)(hv:C1 c G lk w v x):Rd w G.S (τ.aP y) [x]:=by
 cases v with
 | aH u =>
  have e:=TV.aU h;subst e;exact hv.2
 | nil =>
  cases τ with
  | slice t =>
   simp only[jN,b4L] at h;subst h;exact⟨none,0,by rw[show x=_ from hv];rfl,by simp,by simp[maxLen],by simp, .inl rfl⟩
  | _=>cases h
 | _=>cases h
theorem Tl{lk':Nat->Option aB}{R:TV->Value->Prop}{Q:AV->Value->Prop}(hR:∀ t v x y,jN lk' t v=some y->Q v x->R ⟨t,y⟩ x):∀ {cs:List AV} {ts:List Ty} {l:List TV} {vs:List Value},VM lk' cs ts=some l->aT Q cs vs->aT R l vs
 | [],[],l,vs,h,k=>by
  simp only[VM,b4L] at h;subst h;match vs,k with
  | [],_=>trivial
 | v::cs,t::ts,l,vs,h,k=>by
  simp only[VM] at h;split at h
  .rename_i x hx;split at h
   .rename_i r hr;simp only[b4L] at h;subst h;match vs,k with
    | u::us,k=>exact⟨hR _ _ _ _ hx k.1,Tl hR hr k.2⟩
   .cases h
  .cases h
 | [],_::_,_,_,h,_=>by cases h
 | _::_,[],_,_,h,_=>by cases h
theorem Mu{S:Nat->Prop}{lk':Nat->Option aB}(h1:∀ τ v x (y:τ.den),jN lk' τ v=some y->C1 c G lk w v x->Rd w S (τ.aP y) [x])(hS:∀ b,G.S b->S b)
  {τ:Ty} {v:AV} {x:Value} {y:τ.den} (h:Ae lk' τ v=some y) (hv:VR c G lk w v x):dV w S ⟨τ,y⟩ x:=by
 have qq:∀ (wC:∀ cs,v ≠ .agg cs),jN lk' τ v=some y->dV w S ⟨τ,y⟩ x:=by
  intro wC ha;cases v with
  | aH u =>
   have e:=TV.aU ha;subst e;exact dV.mono (G:=G) (G':=⟨S,G.η,G.φ⟩) hv hS (λ _ _=>rfl)
  | nil =>
   have:=h1 τ .nil x y ha hv;cases τ with
   | st s=>cases ha
   | _=>exact this
  | row i =>
   have:=h1 τ (.row i) x y ha hv;cases τ with
   | st s =>
    simp only[jN] at ha;split at ha
    .have e:=TV.aU ha;cases e
    .cases ha
   | _=>exact this
  | av i =>
   have:=h1 τ (.av i) x y ha hv;cases τ with
   | st s =>
    simp only[jN] at ha;split at ha
    .have e:=TV.aU ha;cases e
    .cases ha
   | _=>exact this
  | agg cs=>exact absurd rfl (wC cs)
  | _=>cases ha
 cases v with
 | agg cs =>
  cases τ with
  | st s =>
   simp only[Ae] at h;split at h
   .rename_i l hl;obtain⟨vs,rfl,Cj⟩:=hv;refine⟨vs,rfl,?_⟩;rw[aV.cz,aV.og h];exact dq.dJ.2 (Tl (λ t u z k hk hz=>h1 t u z k hk hz) hl Cj)
   .cases h
  | _=>cases h
 | _=>exact qq (by intro cs;simp) h
theorem AA(Hx:Ms c G lk w)(lF:∀ id o,lk id=some o->OR c G lk w id o){lk':Nat->Option aB}(ct:∀ id o,lk' id=some o->lk id=some o){τ:Ty}{v:AV}{x:Value}{y:τ.den}(h:Ae lk' τ v=some y)
  (hv:VR c G lk w v x):dV w (SX G lk) ⟨τ,y⟩ x :=
 Mu (λ τ v x y h hv=>b1p Hx lF ct h hv) (λ _ h=>SX.of h) h hv
theorem CP{lk':Nat->Option aB}(fM:∀ id e τ xs,lk' id≠some (.row e τ xs))(R3:∀ id τ xs,lk' id≠some (.av τ xs)){τ:Ty}{v:AV}{x:Value}{y:τ.den}(h:Ae lk' τ v=some y)(hv:VR c G lk w v x):dV w G.S ⟨τ,y⟩ x :=
 Mu (λ τ v x y h hv=>a9r fM R3 h hv) (λ _ h=>h) h hv
theorem O0{τ:Ty}{v:AV}{x:Value}{y:τ.den}(h:Ae (λ _=>none) τ v=some y)(hv:VR c G lk w v x):dV w G.S ⟨τ,y⟩ x :=
 Mu (λ τ v x y h hv=>Vf h hv) (λ _ h=>h) h hv
theorem B0{τ:Ty}{v:AV}{x:Value}{new:List AV}(h:cellsOf τ v=some new)(hv:VR c G lk w v x) :
  aT (C1 c G lk w) new x.cells.toList/\(∀ u∈x.cells.toList,u.oneCell'=true)/\new.length=τ.size:=by
 have one:v.cell=true->new=[v]->τ.size=1->aT (C1 c G lk w) new x.cells.toList/\(∀ u∈x.cells.toList,u.oneCell'=true)/\new.length=τ.size:=by
  intro hc hn hs;subst hn;have h1:=hv.Z6 hc;obtain⟨h2,h3⟩:=h1.leaf hc;rw[h3];exact⟨⟨h1,ae⟩,by simpa using h2,by simp[hs]⟩
 cases τ with
 | st s =>
  simp only[cellsOf] at h;split at h
  .rename_i u;split at h
   .rename_i y hy;simp only[b4L] at h;subst h;have e:=TV.aU hy;subst e;obtain⟨cs,rfl,hr⟩:=hv;rw[aV.cz] at hr;have ha:=dq.dJ.1 hr;refine⟨?_,?_,by simp[Ty.size,aV.iV]⟩
    .simp only[Value.cells];refine aT.dZ _ (ha.imp λ u z hu hz=>⟨?_,hz⟩);have:=aV.pE s y u hu;obtain⟨bf,z'⟩:=u;cases bf with
     | st s'=>simp[TV.aP,Ty.aP,aV.cz,D.leaf] at this
     | _=>rfl
    .simp only[Value.cells];intro u hu;obtain⟨i,hi,hiu⟩:=b7C hu;have hlen:=ha.length;obtain⟨b,hb,NI⟩:=ha.at_ i (s.cells y)[i] (b5p (by omega));have cA:b=u:=by
      have:cs[i]?=some u:=by rw[b5p hi,hiu]
      rw[this] at hb;exact (b7E hb).symm
     subst cA;obtain⟨z,h1,h2⟩:=Rd.vP (aV.pE s y _ (b6h _)) NI;simp only[b4X,b5d] at h1;subst h1;exact By h2
   .cases h
  .rename_i cs;split at h
   .rename_i hb;simp only[Option.some.injEq] at h;subst h;simp only[Bool.and_eq_true] at hb;obtain⟨l,rfl,hl⟩:=hv;refine⟨by simpa [Value.cells] using hl,?_,by simpa [Ty.size] using Nat.eq_of_beq_eq_true hb.1⟩;simp only[Value.cells];intro u hu;obtain⟨i,hi,hiu⟩:=List.getElem_of_mem hu;have hlen:=hl.length;obtain⟨b,cA,NI⟩:=hl.at_ i cs[i] (List.getElem?_eq_getElem (by omega));have hbu:b=u:=by
     have:l[i]?=some u:=by rw[b5p hi,hiu]
     rw[this] at cA;exact (b7E cA).symm
    subst hbu;exact (NI.leaf (b5F.1 hb.2 _ (b6h _))).1
   .cases h
  .cases h
 | int k =>
  simp only[cellsOf] at h;split at h
  .rename_i hc;simp only[b4L] at h;exact one hc h.symm rfl
  .cases h
 | bool =>
  simp only[cellsOf] at h;split at h
  .rename_i hc;simp only[b4L] at h;exact one hc h.symm rfl
  .cases h
 | str =>
  simp only[cellsOf] at h;split at h
  .rename_i hc;simp only[b4L] at h;exact one hc h.symm rfl
  .cases h
 | ptr =>
  simp only[cellsOf] at h;split at h
  .rename_i hc;simp only[b4L] at h;exact one hc h.symm rfl
  .cases h
 | mv t =>
  simp only[cellsOf] at h;split at h
  .rename_i hc;simp only[b4L] at h;exact one hc h.symm rfl
  .cases h
 | slice t =>
  simp only[cellsOf] at h;split at h
  .rename_i hc;simp only[b4L] at h;exact one hc h.symm rfl
  .cases h
theorem IE{cs:List AV}{l:List Value}(hl:aT (C1 c G lk w) cs l){off:Nat}{τ:Ty}{u:AV}(h:Kc cs off τ=some u) :
  VR c G lk w u (Ls τ ((l.drop off).take τ.size))/\((l.drop off).take τ.size).length=τ.size/\off+τ.size<=l.length:=by
 have hlen:=hl.length;have one:τ.size=1->(∀ s,τ ≠ .st s)->cs[off]?=some u->VR c G lk w u (Ls τ ((l.drop off).take τ.size))/\((l.drop off).take τ.size).length=τ.size/\off+τ.size<=l.length:=by
  intro hs cw hu;obtain⟨x,hx,hr⟩:=hl.at_ off u hu;have bK:off<l.length:=(b5K.1 hx).1;have he:(l.drop off).take 1=[x]:=by
   rw[b6E bK];have:=(b5K.1 hx).2;simp[this]
  rw[hs,he];refine⟨?_,rfl,by omega⟩;have:Ls τ [x]=x:=by cases τ<;>first|rfl|exact absurd rfl (cw _)
  rw[this];exact hr.fU
 cases τ with
 | st s =>
  simp only[Kc] at h;split at h
  .rename_i hb;simp only[b4L] at h;subst h;have hle:=b5R hb;refine⟨⟨_,rfl,(hl.drop off).take s.size⟩,?_,?_⟩
   .simp only[Ty.size,b5n,b6f];omega
   .simp only[Ty.size];omega
  .cases h
 | int k=>exact one rfl (by intro s;simp) h
 | bool=>exact one rfl (by intro s;simp) h
 | str=>exact one rfl (by intro s;simp) h
 | slice t=>exact one rfl (by intro s;simp) h
 | mv t=>exact one rfl (by intro s;simp) h
 | ptr=>exact one rfl (by intro s;simp) h
theorem cf.part{bk o:Nat}{l:List Value}(h:cf w bk o l)(off n:Nat):cf w bk (o+off) ((l.drop off).take n):=λ j v hj=>by
 rw[b6o] at hj;split at hj
 .rw[b6z] at hj;have:=h (off+j) v hj;rwa [<-b7L] at this
 .cases hj
theorem cf.of_heap{bk:Nat}{l:List Value}{t:TypeId}{fr:Nat×Nat}(h:w.heap[bk]?=some (.cells l.toArray t fr)):cf w bk 0 l:=λ j v hj=>by
 simp only[World.cell?,h,Nat.zero_add,Option.isSome_none];simpa using hj
theorem a4t{S:Nat->Prop}{v u:TV}{off:Nat}{τ:Ty}(h:v.part off τ=some u){l:List Value}(hl:Rd w S v.aP l) :
  u.τ=τ/\((l.drop off).take τ.size).length=τ.size/\Rd w S u.aP ((l.drop off).take τ.size):=by
 have hlen:=Rd.length _ hl;rw[show v.aP=v.τ.aP v.x from rfl,Ty.cN] at hlen;unfold TV.part at h;split at h
 .rename_i hb;simp only[b4S] at hb;simp only[b4L] at h;subst h;have h0:=b4O hb.1;have h1:=b5E hb.2;subst h0;subst h1;rw[b7b,b5o (by omega)];exact⟨rfl,hlen,hl⟩
 .split at h
  .rename_i z hz;split at h
   .rename_i hb;simp only[b4L] at h;subst h;have h1:=b5E hb;subst h1;obtain⟨bf,y⟩:=v;have key:∀ (x:Value),l[off]?=some x->z.τ.agg=false->Rd w S z.aP [x]->z.τ=z.τ/\((l.drop off).take z.τ.size).length=z.τ.size/\Rd w S z.aP ((l.drop off).take z.τ.size):=by
     intro x hx ha hr;have bK:off<l.length:=(b5K.1 hx).1;have he:(l.drop off).take 1=[x]:=by
      rw[b6E bK];have:=(b5K.1 hx).2;simp[this]
     rw[Ty.jL ha,he];exact⟨rfl,rfl,hr⟩
    cases bf with
    | st s =>
     simp only[TV.cells] at hz;rw[show TV.aP ⟨.st s,y⟩=s.aP y from rfl,aV.cz] at hl;obtain⟨x,hx,hr⟩:=(dq.dJ.1 hl).at_ off z hz;refine key x hx ?_ hr;have:=aV.pE s y z (b6t hz);obtain⟨b4h,z'⟩:=z;cases b4h with
     | st s'=>simp[TV.aP,Ty.aP,aV.cz,D.leaf] at this
     | _=>rfl
    | _ =>
     simp only[TV.cells] at hz;cases off with
     | zero =>
      simp at hz;subst hz;obtain⟨x,rfl,_⟩:=Rd.vP (jG rfl) hl;exact key x rfl rfl hl
     | succ k=>simp at hz
   .cases h
  .cases h
theorem a6z{id:Nat}{e:TypeId}{τ:Ty}{xs:List τ.den}(ho:OR c G lk w id (.row e τ xs)){b n cap:Nat}(ec:G.η id = .slice (some ⟨b,0,none⟩) n cap){i:Nat}(hi:i<xs.length) :
  ∃ cs,cs.length=τ.size/\cf w b (i * τ.size) cs/\Rd w G.S (τ.aP (xs.getD i τ.zero)) cs:=by
 obtain⟨l,h1,h2,h3⟩:=ho;have cK:∀ d∈xs.map τ.aP,d.size=τ.size:=by
  intro d hd;obtain⟨y,_,rfl⟩:=b4W.1 hd;exact Ty.cN τ y
 have hll:=dU.length _ h2 cK;have Ww:=dU.at_ _ h2 cK i (τ.aP (xs.getD i τ.zero)) (by simp[List.getD,hi]);have hlen:=Rd.length _ Ww;rw[Ty.cN] at hlen;refine⟨_,hlen,?_,Ww⟩;have hc:cf w b 0 l:=λ j v hj=>by
  have:=h1.cells (g:=b) (by rw[ec];rfl) j v hj;rwa [b7f] at this
 have:=hc.part (i * τ.size) τ.size;rwa [b6w] at this
theorem qL(lF:∀ id o,lk id=some o->OR c G lk w id o){lk':Nat->Option aB}(ct:∀ id o,lk' id=some o->lk id=some o){τ:Ty}{v u:AV}{x:Value}(h:s9 lk' τ v=some u)(hv:VR c G lk w v x) :
  ∃ b o cs,x = .pointer (some ⟨b,o,none⟩)/\cf w b o cs/\cs.length=τ.size/\VR c G lk w u (Ls τ cs):=by
 cases v with
 | cX z =>
  simp only[s9] at h;split at h
  .rename_i hb;simp only[b4L] at h;subst h;have e:=b5E hb;subst e;obtain⟨b,o,cs,h1,h2,h3,h4⟩:=hv;refine⟨b,o,cs,h1,h3,?_,dV.mk_ h4⟩;rw[Rd.length _ h4];exact Ty.cN _ _
  .cases h
 | ptr id off =>
  simp only[s9] at h;split at h
  .rename_i cs hl;obtain⟨b,h1,h2,h3⟩:=hv;obtain⟨b',l,t,k1,k2,k3⟩:=lF _ _ (ct _ _ hl);rw[h1] at k1;simp only[b7k,b4L,b6A,b5d] at k1;subst k1;obtain⟨m1,m2,m3⟩:=IE k3 h;refine⟨b,off,_,h2,?_,m2,m1⟩;have:=(cf.of_heap k2).part off τ.size;rwa [b6w] at this
  .cases h
 | eH id i off =>
  simp only[s9] at h;split at h
  .rename_i e bf xs hl;split at h
   .rename_i z hz;simp only[b4L] at h;subst h;obtain⟨b,n,cap,e1,Y3,Y2,h1,h2,h3,h4⟩:=hv;have mV:=ct _ _ hl;rw[mV] at h2;simp only[b4L,aB.row.injEq] at h2;obtain⟨rfl,rfl,h2⟩:=h2;have h2:=b7O h2;subst h2;obtain⟨cs,m1,m2,m3⟩:=a6z (lF _ _ mV) h1 h3;obtain⟨p1,p2,p3⟩:=a4t (v:=⟨bf,xs.getD i bf.zero⟩) hz m3;subst p1;exact⟨b,_,_,h4,m2.part off _,p2,dV.mk_ p3⟩
   .cases h
  .cases h
 | _=>cases h
end
theorem eM{k:IntKind}{n:Int}(h:bT k n):k.min<=n/\n<=k.max:=by
 cases k<;>first
  | exact h
  | (simp only[bT,O] at h;simp only[IntKind.min,IntKind.max,IntKind.signed,IntKind.bits,b6M];exact⟨by omega,by omega⟩)
theorem ux{k:IntKind}{n:Int}(h:k.min<=n/\n<=k.max):k.wrap n=n:=by
 cases k<;>simp[IntKind.min,IntKind.max,IntKind.signed,IntKind.bits] at h<;>simp[IntKind.wrap,IntKind.signed,IntKind.bits]<;>(try split)<;>omega
theorem Ym(n:Int):IntKind.u64.min<=IntKind.u64.wrap n/\IntKind.u64.wrap n<=IntKind.u64.max:=by
 simp[IntKind.min,IntKind.max,IntKind.signed,IntKind.bits,IntKind.wrap];omega
theorem a4f{k:IntKind}{a:Int}(h0:0<=a)(h:k.min<=a/\a<=k.max):a.toNat<2 ^ k.bits:=by
 cases k<;>simp[IntKind.min,IntKind.max,IntKind.signed,IntKind.bits] at h ⊢<;>omega
theorem a5N{k:IntKind}{a b:Int}(ha0:0<=a)(P8:0<=b)(ha:k.min<=a/\a<=k.max)(hb:k.min<=b/\b<=k.max) :
  k.wrap ((BitVec.ofInt k.bits a &&& BitVec.ofInt k.bits b).toNat:Int)=((a.toNat &&& b.toNat:Nat):Int)/\k.min<=((a.toNat &&& b.toNat:Nat):Int)/\((a.toNat &&& b.toNat:Nat):Int)<=k.max:=by
 have h1:∀ x:Int,0<=x->k.min<=x/\x<=k.max->(BitVec.ofInt k.bits x).toNat=x.toNat:=λ x h0 hx=>by
  obtain⟨n,rfl⟩:=b7I h0;have:=a4f h0 hx;simp only[b5e] at this ⊢;rw[show BitVec.ofInt k.bits (n:Int)=BitVec.ofNat k.bits n from BitVec.ofInt_natCast ..,BitVec.toNat_ofNat];exact Nat.mod_eq_of_lt this
 have hle:((a.toNat &&& b.toNat:Nat):Int)<=a:=by
  have := @Nat.and_le_left a.toNat b.toNat;omega
 have hr:k.min<=((a.toNat &&& b.toNat:Nat):Int)/\((a.toNat &&& b.toNat:Nat):Int)<=k.max:=by
  refine⟨?_,by omega⟩;have:k.min<=0:=by cases k<;>decide
  omega
 rw[BitVec.toNat_and,h1 a ha0 ha,h1 b P8 hb];exact⟨ux hr,hr⟩
theorem VL{op:BinOp}{k yk:IntKind}{a b r:Int}{p:Vc}(h:arith op k a b=some (p,r))(hp:p.ok)(hk:op = .shl\/op = .shr\/yk=k)(P:Program)(t:TypeId)(w:World) :
  (binOp op t (.int k a) (.int yk b)).run P w = .ok (.int k r) w/\k.min<=r/\r<=k.max:=by
 cases op<;>simp only[arith] at h<;>try cases h
 case add =>
  have hk:yk=k:=by simpa using hk
  subst hk;split at h<;>simp only[b4L,b4P] at h<;>obtain⟨rfl,rfl⟩:=h
  .exact⟨by simp[binOp_add,Op.intArith],Ym _⟩
  .have:=eM hp;exact⟨by simp[binOp_add,Op.intArith,ux this],this⟩
 case sub =>
  have hk:yk=k:=by simpa using hk
  subst hk;have:=eM hp;exact⟨by simp[binOp_sub,Op.intArith,ux this],this⟩
 case mul =>
  have hk:yk=k:=by simpa using hk
  subst hk;split at h<;>simp only[b4L,b4P] at h<;>obtain⟨rfl,rfl⟩:=h
  .exact⟨by simp[binOp_mul,Op.intArith],Ym _⟩
  .have:=eM hp;exact⟨by simp[binOp_mul,Op.intArith,ux this],this⟩
 case quo =>
  have hk:yk=k:=by simpa using hk
  subst hk;have:=eM hp.2;exact⟨by simp[binOp_quo,Op.intDiv,hp.1,ux this],this⟩
 case rem =>
  have hk:yk=k:=by simpa using hk
  subst hk;have:=eM hp.2;exact⟨by simp[binOp_rem,Op.intDiv,hp.1],this⟩
 case and =>
  have hk:yk=k:=by simpa using hk
  subst hk;obtain⟨h1,h2⟩:=a5N hp.1 hp.2.1 (eM hp.2.2.1) (eM hp.2.2.2);exact⟨by simp only[binOp_and,Op.intBits,b5A,h1],h2⟩
 case shl =>
  have hp1:b<(k.bits:Int):=hp.2.1;have:=eM hp.2.2;have hb:min b.toNat k.bits=b.toNat:=by omega
  exact⟨by simp[binOp_shl,Op.shift,Int.not_lt.2 hp.1,hb,ux this],this⟩
 case shr =>
  have hp1:b<(k.bits:Int):=hp.2.1;have:=eM hp.2.2;have hb:min b.toNat k.bits=b.toNat:=by omega
  exact⟨by simp[binOp_shr,Op.shift,Int.not_lt.2 hp.1,hb],this⟩
theorem a1j(k:IntKind)(n:Int):k.min<=k.wrap n/\k.wrap n<=k.max:=by
 cases k<;>simp[IntKind.min,IntKind.max,IntKind.signed,IntKind.bits,IntKind.wrap]<;>omega
theorem a1p{wr:Bool}{op:BinOp}{k yk:IntKind}{a b r:Int}{p:Vc}(h:a0f wr op k a b=some (p,r))(hp:p.ok)(hk:op = .shl\/op = .shr\/yk=k)(P:Program)(t:TypeId)(w:World) :
  (binOp op t (.int k a) (.int yk b)).run P w = .ok (.int k r) w/\k.min<=r/\r<=k.max:=by
 unfold a0f at h;split at h
 .split at h
  .have hk:yk=k:=by simpa using hk
   subst hk;simp only[b4L,b4P] at h;obtain⟨rfl,rfl⟩:=h;exact⟨by simp[binOp_add,Op.intArith],a1j _ _⟩
  .have hk:yk=k:=by simpa using hk
   subst hk;simp only[b4L,b4P] at h;obtain⟨rfl,rfl⟩:=h;exact⟨by simp[binOp_sub,Op.intArith],a1j _ _⟩
  .have hk:yk=k:=by simpa using hk
   subst hk;simp only[b4L,b4P] at h;obtain⟨rfl,rfl⟩:=h;exact⟨by simp[binOp_mul,Op.intArith],a1j _ _⟩
  .exact VL h hp hk P t w
 .exact VL h hp hk P t w
theorem a7r{op:BinOp}{k:IntKind}{a b:Int}{r:Bool}(h:cmp op a b=some r)(P:Program)(t:TypeId)(w:World) :
  (binOp op t (.int k a) (.int k b)).run P w = .ok (.bool r) w:=by
 cases op<;>simp only[cmp,b4L] at h<;>try cases h
 .simp only[binOp_eql,b5A];congr 2
 .simp only[binOp_neq,b5A];congr 2
 .simp[binOp_lss]
 .simp[binOp_leq]
 .simp[binOp_gtr]
 .simp[binOp_geq]
section
variable {c:Ctx} {G:Gh} {lk:Nat->Option aB} {w:World}
theorem Zg(a b:ByteArray):(a.toList == b.toList)=decide (a.data.toList=b.data.toList):=by
 rw[b8M,b8M];rw[b6O];simp
theorem a3q(hE:bF c.P c.E){op:BinOp}{T:TypeId}{u v r:AV}{x y:Value}{p:Vc}{wr:Bool}(ox oy:Operand)
  (h:a3p (match ah c.E.ty T with
   | some (.bool,_)=>true
   | _=>false) wr op u v=some (p,r)) (hp:p.ok) (hu:VR c G lk w u x) (hv:VR c G lk w v y) :
  ∃ z,(do eqGuard op T ox oy x y;binOp op T x y:Sem Value).run c.P w = .ok z w/\VR c G lk w r z:=by
 unfold a3p at h;split at h
 .rename_i k a k' b;obtain⟨h1,h2⟩:=hu;obtain⟨h3,h4⟩:=hv;simp only[b4X,b5d] at h1 h3;subst h1 h3;simp only[eqGuard_at_int,b5x,b5A,b5r];split at h
  .rename_i p' r' har;have key:(op = .shl\/op = .shr\/k'=k)->p'.ok->∃ z,(binOp op T (.int k a) (.int k' b)).run c.P w = .ok z w/\VR c G lk w (.aH ⟨.int k,r'⟩) z:=λ hk Ld=>by
    obtain⟨h5,h6⟩:=a1p har Ld hk c.P T w;exact⟨_,h5,rfl,h6⟩
   split at h
   .simp only[b4L,b4P] at h;obtain⟨rfl,rfl⟩:=h;exact key (.inl rfl) hp
   .simp only[b4L,b4P] at h;obtain⟨rfl,rfl⟩:=h;exact key (.inr (.inl rfl)) hp
   .split at h
    .rename_i hk;simp only[b4L,b4P] at h;obtain⟨rfl,rfl⟩:=h;exact key (.inr (.inr (b5E hk).symm)) hp
    .cases h
  .split at h
   .rename_i hk;have hk:=b5E hk;subst hk;split at h
    .rename_i cc hc;simp only[b4L,b4P] at h;obtain⟨rfl,rfl⟩:=h;exact⟨_,a7r hc c.P T w,rfl⟩
    .cases h
   .cases h
 .rename_i a b;have hu:[x]=[.bool a]:=hu;have hv:[y]=[.bool b]:=hv;simp only[b4X,b5d] at hu hv;subst hu hv;split at h
  .rename_i hT;split at hT
   .rename_i r' hl;have hb:=hE.bool hl;split at h
    .simp only[b4L,b4P] at h;obtain⟨rfl,rfl⟩:=h;exact⟨.bool (a == b),by simp[binOp,run_equal_bool w T a b hb,eqGuard_at_bool],rfl⟩
    .simp only[b4L,b4P] at h;obtain⟨rfl,rfl⟩:=h;exact⟨.bool !(a == b),by simp[binOp,run_equal_bool w T a b hb,eqGuard_at_bool],rfl⟩
    .cases h
   .cases hT
  .cases h
 .rename_i a b;obtain⟨s,h1,h2,h3⟩:=hu;obtain⟨s',h4,h5,h6⟩:=hv;simp only[b4X,b5d] at h1 h4;subst h1 h4;subst h2 h5;split at h
  .simp only[b4L,b4P] at h;obtain⟨rfl,rfl⟩:=h;exact⟨.bool (s.toList == s'.toList),by simp[binOp,Op.stringOp,b8m],by rw[Zg];rfl⟩
  .simp only[b4L,b4P] at h;obtain⟨rfl,rfl⟩:=h;exact⟨.bool (!(s.toList == s'.toList)),by simp[binOp,Op.stringOp,b8m],by rw[Zg];rfl⟩
  .simp only[b4L,b4P] at h;obtain⟨rfl,rfl⟩:=h;have cK:s.size+s'.size<=140737488355328:=by
    have:=hp;simp only[b5S] at this;exact this
   have hs2:(s++s').size=s.size+s'.size:=ByteArray.size_append;refine⟨.string (s++s'),?_,s++s',rfl,by simp,by rw[hs2];exact cK⟩;have:¬ (((s.size+s'.size:Nat):Int)>IntKind.i64.max):=by rw[IntKind.max_i64];omega
   simp only[b8m,b5x,b5A,b5r,binOp,Op.stringOp,b4Z this]
  .cases h
 .cases h
theorem kE(hE:bF c.P c.E){T:TypeId}{n:aV}{b e:Nat}(h:ah c.E.ty T=some (.st n,b,e)){bk o:Nat}{i:Nat}(hi:i<n.fX.length)(w:World) :
  (Instr.fieldAt T (.pointer (some ⟨bk,o,none⟩)) i).run c.P w = .ok (.pointer (some ⟨bk,o+n.fu i,none⟩)) w:=by
 obtain⟨fs,h1,h2,h3⟩:=hE.st h;have hf:fs[i]?=some fs[i]:=b6c (by omega);obtain⟨t,b',e',h4,h5,h6⟩:=h3 i _ hf;have cK:=hE.sizeOf h5 w;have h0:t.size≠0:=Nat.pos_iff_ne_zero.1 t.size_pos;simp[Instr.fieldAt,b5N h1,hf,Instr.sureAddr,fieldPlace,cK,h0,b7f,h6]
theorem XX(hE:bF c.P c.E){T:TypeId}{n:aV}{b e:Nat}(h:ah c.E.ty T=some (.st n,b,e)){l:List Value}{i:Nat}{t:Ty}(hi:n.fX[i]?=some t)
  (hl:n.fu i+t.size<=l.length) (w:World) :
  (Instr.field T (.agg l.toArray) i).run c.P w = .ok (Ls t ((l.drop (n.fu i)).take t.size)) w:=by
 obtain⟨fs,h1,h2,h3⟩:=hE.st h;have bK:i<fs.size:=by have:=(b5K.1 hi).1;omega
 have hf:fs[i]?=some fs[i]:=b6c bK;obtain⟨t',b',e',h4,h5,h6⟩:=h3 i _ hf;rw[hi] at h4;simp only[b4L] at h4;subst h4;have cK:=hE.sizeOf h5 w;have hag:=hE.isAgg h5 w;simp only[Instr.field,b5x,b5N h1,b5r,hf,asAgg,part,hag,b5A];cases jB:t.agg with
 | true =>
  simp only[b6M,b5x,cK,b5r,b5A,h6];cases t<;>first|(cases jB;done)|skip
  simp only[Ls,Result.ok.injEq,Value.agg.injEq,b5d];apply b8E;simp[List.take_drop]
 | false =>
  have h1:=Ty.jL jB;simp only[b4U,b7M,h6];have hx:l.toArray[n.fu i]?=some (l[n.fu i]'(by omega)):=by rw[List.getElem?_toArray];exact b5p (by omega)
  rw[hx];simp only[b5A,h1];have he:(l.drop (n.fu i)).take 1=[l[n.fu i]'(by omega)]:=by
   rw[b6E (by omega),b7X,b5T]
  rw[he];cases t<;>first|rfl|cases jB
end
section
variable {c:Ctx} {G:Gh} {lk:Nat->Option aB} {w:World}
theorem a4J(k:IntKind):k.min<=0/\0<=k.max:=by cases k<;>decide
theorem J1{τ:Ty}{v:Value}(h:Ac τ v=true):C1 c G lk w (zeroCell τ) v:=by
 unfold Ac at h;split at h
 .simp only[b4S] at h;have h1:=b5E h.1;have h2:=b5E h.2;subst h1 h2;exact⟨rfl,rfl,a4J _⟩
 .rename_i b;cases b
  .exact⟨rfl,rfl⟩
  .cases h
 .rename_i s;exact⟨rfl,s,rfl,List.isEmpty_iff.1 h,by simp[List.isEmpty_iff] at h;simp[ByteArray.size,h]⟩
 .rfl
 .exact⟨rfl,_,rfl⟩
 .cases h
theorem kV{τ:Ty}{z:Value}(h:BT τ z=true):aT (C1 c G lk w) (zeroCells τ) z.cells.toList:=by
 have key:∀ (ts:List Ty) (vs:List Value),Rr ts vs=true->aT (C1 c G lk w) (ts.map zeroCell) vs:=by
  intro ts;induction ts with
  | nil=>intro vs h;cases vs<;>first|trivial|cases h
  | cons t ts ih =>
   intro vs h;cases vs with
   | nil=>cases h
   | cons v vs =>
    simp only[Rr,b4S] at h;exact⟨J1 h.1,ih vs h.2⟩
 have one:∀ v,Ac τ v=true->v.cells = #[v]:=by
  intro v hv;unfold Ac at hv;split at hv<;>first|rfl|cases hv
 unfold BT at h;split at h
 .rename_i s cs;exact key _ _ h
 .cases h
 .rename_i bf v h1 h2;rw[one _ h];have:zeroCells τ=[zeroCell τ]:=by
   cases τ<;>first|rfl|(rename_i s;cases v<;>first|exact absurd rfl (h2 s rfl)|cases h)
  rw[this];exact⟨J1 h,ae⟩
theorem Rs{S:Nat->Prop}{τ:Ty}{z:Value}(h:BT τ z=true):Rd w S (τ.aP τ.zero) z.cells.toList:=by
 have h1:=kV (c:=⟨{ funcs := #[],goVersion := "",platform := "",initOrder := "",godebug := "",types := #[],rt:=default,cutTypes := #[],globals := #[],inits := #[],main:=0 },{ ty:=[],pty:=[],Pv:=λ _ _=>none },w,λ _=>True,S,λ _=>none,λ _=>False,λ _=>none⟩) (G:=⟨S,λ _=>undef,λ _=>[]⟩) (lk:=λ _=>none) (w:=w) h;have cell:∀ t x,C1 ⟨{ funcs := #[],goVersion := "",platform := "",initOrder := "",godebug := "",types := #[],rt:=default,cutTypes := #[],globals := #[],inits := #[],main:=0 },{ ty:=[],pty:=[],Pv:=λ _ _=>none },w,λ _=>True,S,λ _=>none,λ _=>False,λ _=>none⟩ ⟨S,λ _=>undef,λ _=>[]⟩ (λ _=>none) w (zeroCell t) x->Rd w S (t.aP t.zero) [x]:=by
  intro t x hx;cases t with
  | slice t'=>exact Vf (τ := .slice t') (v := .nil) rfl hx
  | _=>exact hx.2
 cases τ with
 | st s =>
  simp only[zeroCells] at h1;show Rd w S (s.aP s.zero) _;rw[aV.cz];have hz:(s.cells s.zero).map TV.aP=s.tA.map λ t=>t.aP t.zero:=by cases s<;>rfl
  rw[hz];have h2:=aT.of_map _ h1;have:∀ (ts:List Ty) (vs:List Value),aT (λ t x=>Rd w S (t.aP t.zero) [x]) ts vs->dq w S (ts.map λ t=>t.aP t.zero) vs:=by
   intro ts;induction ts with
   | nil=>intro vs h;cases vs<;>first|rfl|cases h
   | cons t ts ih =>
    intro vs h;cases vs with
    | nil=>cases h
    | cons v vs=>exact⟨v,vs,rfl,h.1,ih vs h.2⟩
  exact this _ _ (h2.imp λ t x _ hx=>cell t x hx)
 | _ =>
  simp only[zeroCells] at h1;match hc:z.cells.toList,h1 with
  | [x],h1=>exact cell _ _ h1.1
theorem Wm(off:Nat):∀ (xs:List Value) (k:Nat) (l:List Value),off+k+xs.length<=l.length ->
  (xs.zipIdx k).foldl (λ cs p=>cs.setIfInBounds (off+p.2) p.1) l.toArray=(l.take (off+k)++xs++l.drop (off+k+xs.length)).toArray
 | [],k,l,_=>by simp
 | x::xs,k,l,h=>by
  simp only[List.length_cons] at h;simp only[List.zipIdx_cons,List.foldl_cons];have:=Wm off xs (k+1) (l.set (off+k) x) (by simp;omega);rw[List.setIfInBounds_toArray,this];congr 1;have e:=list_seg_step l (off+k) x xs (by omega);simpa [Nat.add_assoc] using e
theorem RT(place:Nat->Option (Nat×Nat))(i off size:Nat)(v:Value)(rest:List (Nat×Value))(l:List Value)(hp:place i=some (off,size))(hs:v.cells.size=size)(hl:off+size<=l.length) :
  Instr.fill place l.toArray ((i,v)::rest)=Instr.fill place (l.take off++v.cells.toList++l.drop (off+size)).toArray rest:=by
 have hn:(decide (v.cells.size≠size)||decide (off+v.cells.size>l.toArray.size))=false:=by
  simp[hs];omega
 simp only[Instr.fill,hp,hn,b4U,b7M];congr 1;rw[<-Array.foldl_toList,Array.toList_zipIdx];have:=Wm off v.cells.toList 0 l (by simp[hs];omega);simp only[b6R,b5S,hs] at this;exact this
theorem Mj{E:Env}{s:aV}{place:Nat->Option (Nat×Nat)}(hp:∀ i t,s.fX[i]?=some t->place i=some (s.fu i,t.size)) :
  ∀ {ps:List (Nat×AV)} {vs:List (Nat×Value)} {cs dE:List AV} {l:List Value},partsOf E s cs ps=some dE->aT (λ p q=>p.1=q.1/\VR c G lk w p.2 q.2) ps vs->aT (C1 c G lk w) cs l ->
   ∃ l',Instr.fill place l.toArray vs=some l'.toArray/\aT (C1 c G lk w) dE l'
 | [],[],cs,dE,l,h,_,hl=>by
  simp only[partsOf,b4L] at h;subst h;exact⟨l,rfl,hl⟩
 | (i,v)::ps,(j,x)::vs,cs,dE,l,h,hv,hl=>by
  obtain⟨⟨DA,hx⟩,WN⟩:=hv;have DA:i=j:=DA;subst DA;simp only[partsOf] at h;split at h
  .rename_i τ jB;split at h
   .rename_i new rC;split at h
    .rename_i cs1 DC;obtain⟨h1,_,h3⟩:=B0 rC hx;have hlen:=h1.length;have hll:=hl.length;unfold putCells at DC;split at DC
     .rename_i hb;have hb:=b5R hb;simp only[b4L] at DC;subst DC;have cK:x.cells.size=τ.size:=by rw[<-h3,hlen];simp
      have Dz:s.fu i+τ.size<=l.length:=by omega
      rw[RT place i _ _ x vs l (hp i τ jB) cK Dz];refine Mj hp h WN ?_;rw[b5O,<-h3];exact (hl.take _).append (h1.append (hl.drop _))
     .cases DC
    .cases h
   .cases h
  .cases h
 | [],_::_,_,_,_,_,hv,_=>hv.elim
 | _::_,[],_,_,_,_,hv,_=>hv.elim
theorem LQ{τ:Ty}{place:Nat->Option (Nat×Nat)}(hp:∀ i,place i=some (i * τ.size,τ.size)) :
  ∀ {ps:List (Nat×AV)} {vs:List (Nat×Value)} {n:Nat} {xs:List τ.den} {l:List Value},tC τ n ps=some xs->aT (λ p q=>p.1=q.1/\VR c G lk w p.2 q.2) ps vs ->
   (n+ps.length) * τ.size=l.length->∃ r,Instr.fill place l.toArray vs=some (l.take (n * τ.size)++r).toArray/\dU w G.S (xs.map τ.aP) r
 | [],[],n,xs,l,h,_,hl=>by
  simp only[tC,b4L] at h;subst h;refine⟨[],?_,rfl⟩;simp only[b5j,b6R] at hl;rw[hl,b7j,b6a];rfl
 | (i,v)::ps,(j,x)::vs,n,xs,l,h,hv,hl=>by
  obtain⟨⟨DA,hx⟩,WN⟩:=hv;have DA:i=j:=DA;subst DA;simp only[tC] at h;split at h
  .rename_i eA;have eA:=b4O eA;subst eA;split at h
   .rename_i y hy;split at h
    .rename_i ys R6;simp only[b4L] at h;subst h;have hr:=(O0 hy hx).cells;have cK:x.cells.size=τ.size:=by
      have:=Rd.length _ hr;rw[show TV.aP ⟨τ,y⟩=τ.aP y from rfl,Ty.cN] at this;simpa using this
     simp only[b4Y] at hl;have Qi:=τ.size_pos;have e1:(i+(ps.length+1)) * τ.size=i * τ.size+τ.size+ps.length * τ.size:=by
      rw[b6i,b6i];omega
     rw[RT place i _ _ x vs l (hp i) cK (by omega)];obtain⟨r,h1,h2⟩:=LQ hp (l:=l.take (i * τ.size)++x.cells.toList++l.drop (i * τ.size+τ.size)) R6 WN (by
      simp[cK];rw[show (i+1+ps.length) * τ.size=i * τ.size+τ.size+ps.length * τ.size by rw[b6i,b6i];omega];omega)
     refine⟨x.cells.toList++r,?_,_,_,rfl,hr,h2⟩;rw[h1];congr 2;rw[show (i+1) * τ.size=i * τ.size+τ.size by rw[b6i];omega];have ht:(l.take (i * τ.size)++x.cells.toList).length=i * τ.size+τ.size:=by simp[cK];omega
     rw[<-ht,b7c,b5O]
    .cases h
   .cases h
  .cases h
 | [],_::_,_,_,_,_,hv,_=>hv.elim
 | _::_,[],_,_,_,_,hv,_=>hv.elim
theorem F9{τ:Ty}:∀ {ps:List (Nat×AV)} {n:Nat} {xs:List τ.den},tC τ n ps=some xs->xs.length=ps.length
 | [],n,xs,h=>by
  simp only[tC,b4L] at h;subst h;rfl
 | (i,v)::ps,n,xs,h=>by
  simp only[tC] at h;split at h
  .split at h
   .split at h
    .rename_i ys R6;simp only[b4L] at h;subst h;simp[F9 R6]
    .cases h
   .cases h
  .cases h
theorem GJ(z:Array Value)(k:Nat):(madeCells z ((k+1) * z.size)).toList=(madeCells z (k * z.size)).toList++z.toList:=by
 apply b7J;intro j;have e:(k+1) * z.size=k * z.size+z.size:=by rw[b6i];omega
 by_cases h1:j<k * z.size
 .rw[b6V (by simp[madeCells];exact h1)];have h2:j<(k+1) * z.size:=by omega
  simp[madeCells,h1,h2]
 .by_cases h2:j<(k+1) * z.size
  .rw[b6s (by simp[madeCells];omega)];have h3:j - k * z.size<z.size:=by omega
   have hm:j % z.size=j - k * z.size:=by
    have h4:(j - k * z.size+z.size * k) % z.size=j - k * z.size:=by rw[Nat.add_mul_mod_self_left,Nat.mod_eq_of_lt h3]
    rwa [Nat.mul_comm z.size k,Nat.sub_add_cancel (Nat.le_of_not_lt h1)] at h4
   simp[madeCells,h2,hm,h3]
  .rw[b6s (by simp[madeCells];omega)];have h3:¬ j - k * z.size<z.size:=by omega
   simp[madeCells,h2];omega
theorem L8{S:Nat->Prop}{d:D}{z:Array Value}(h:Rd w S d z.toList):∀ k:Nat,dU w S (List.replicate k d) (madeCells z (k * z.size)).toList
 | 0=>by simp[madeCells,dU,Array.range_zero']
 | k+1=>by
  rw[GJ,b7x];exact dU.append _ _ (L8 h k) ⟨z.toList,[],by simp,h,rfl⟩
theorem GK(z:Array Value)(n m:Nat)(h:n<=m):(madeCells z m).toList.take n=(madeCells z n).toList:=by
 apply b7J;intro j;rw[b6o];by_cases hj:j<n
 .have:j<m:=by omega
  simp[madeCells,hj,this]
 .simp[madeCells,hj]
end
def LV(d:Option Nat)(v:AV):aB->Prop
 | .box _=>∃ i,d=some i/\v = .ptr i 0
 | .row .. => ∃ i,d=some i/\v = .row i
 | .av .. => False
 | .map .. => ∃ i,d=some i/\v = .mp i
def a4L(c:Ctx)(G:Gh)(lk:Nat->Option aB)(w:World)(x:Value):aB->Prop
 | .box cs=>∃ b l t,x = .pointer (some ⟨b,0,none⟩)/\w.heap[b]?=some (.cells l.toArray t (0,0))/\aT (C1 c G lk w) cs l
 | .row e τ xs=>∃ l,w.ownsRow 0 e τ.size x xs.length l/\dU w G.S (xs.map τ.aP) l/\xs.length<=140737488355328
 | .av .. => False
 | .map m=>∃ b es clock,x = .map (some b)/\w.heap[b]?=some (.map es clock)/\OM m es
def Ay(c:Ctx)(G:Gh)(sl:Nat->AV)(n:Nat)(lk:Nat->Option aB)(d:Option Nat)(a:Act)(w:World)(v:AV)(ob:Option aB)(a':Act)(w':World):Prop :=
 ∃ x S',a'=a.put d x/\bw c ⟨S',G.η,G.φ⟩ sl n lk a w' /\
  match ob with
  | none=>VR c ⟨S',G.η,G.φ⟩ lk w' v x
  | some o=>LV d v o/\a4L c ⟨S',G.η,G.φ⟩ lk w' x o/\∀ b,ef x=some b->w.heap.size<=b/\b<w'.heap.size/\¬ S' b
section
variable {c:Ctx} {G:Gh} {sl:Nat->AV} {n:Nat} {lk:Nat->Option aB} {a:Act} {w w':World}
theorem bw.grow(h:bw c G sl n lk a w)(hk:bD (λ _=>False) w w'){S':Nat->Prop}(hS:∀ b,b<w.heap.size->(S' b↔G.S b))(hLt:∀ b,S' b->b<w'.heap.size):bw c ⟨S',G.η,G.φ⟩ sl n lk a w':=by
 refine h.world ⟨hk.os,hk.tape,hk.output,hk.size,λ b hb _=>hk.block b hb (λ h=>h)⟩ (λ b hb=>(hS b (h.dB b hb)).2 hb) hS (λ b hb=>?_) hLt (λ b hb=>?_) (λ id o b ho hb=>?_) (λ id τ xs b ht hb=>hk.block b (h.aL.pl id τ xs b ht hb).2.2.1 (λ h=>h))
 .have h1:=h.sX b hb;exact (hS b (h.dB b h1)).2 h1
 .refine hk.block b ?_ (λ h=>h);rcases hb with hb|hb
  .exact h.dB b hb
  .exact b5i hb.1 h.aR.size
 .exact hk.block b (h.place id o b ho hb).2.2 (λ h=>h)
theorem gD(w:World)(o:Obj):bD (λ _=>False) w (w.alloc o):=⟨rfl,rfl,rfl,by simp,λ b hb _=>RowKit.Below.heap_alloc w o b hb⟩
theorem bw.alloc(h:bw c G sl n lk a w)(o:Obj):bw c G sl n lk a (w.alloc o) :=
 h.grow (S':=G.S) (gD w o) (λ _ _=>b6P) (λ b hb=>by have:=h.dB b hb;simp;omega)
theorem bw.a1a(h:bw c G sl n lk a w)(hk:bD (λ _=>False) w w')(b:Nat)(hb:St c G.S b):w'.heap[b]?=w.heap[b]?:=by
 refine hk.block b ?_ (λ h=>h);rcases hb with hb|hb
 .exact h.dB b hb
 .exact b5i hb.1 h.aR.size
theorem bw.b1B(h:bw c G sl n lk a w)(hk:bD (λ _=>False) w w'){v:AV}{x:Value}(hv:C1 c G lk w v x):C1 c G lk w' v x :=
 hv.mono (λ _ _=>⟨eK.refl _,rfl⟩) (λ _ h=>h) (h.a1a hk)
theorem cH{o:Oper}{v:AV}{x:Value}{Q:Exit->Act->World->Prop}(hI:bw c G sl n lk a w)(hr:(execOp a.eval o).run c.P w = .ok (.value x) w)(hv:VR c G lk w v x) :
  o.wp c.P a w (Ay c G sl n lk o.dst a w v none) Q:=by
 unfold Oper.wp;rw[hr];exact⟨x,G.S,rfl,hI,hv⟩
theorem Dm{o:Oper}{v:AV}{ob:aB}{x:Value}{Q:Exit->Act->World->Prop}(hI0:bw c G sl n lk a w)(hr:(execOp a.eval o).run c.P w = .ok (.value x) w')(hI:bw c G sl n lk a w')
  (hL:LV o.dst v ob) (hN:a4L c G lk w' x ob) (hb:∀ b,ef x=some b->w.heap.size<=b/\b<w'.heap.size) :
  o.wp c.P a w (Ay c G sl n lk o.dst a w v (some ob)) Q:=by
 unfold Oper.wp;rw[hr];exact⟨x,G.S,rfl,hI,hL,hN,λ b h=>⟨(hb b h).1,(hb b h).2,λ hs=>by have:=hI0.dB b hs;have:=(hb b h).1;omega⟩⟩
theorem ZT{e:TypeId}{τ:Ty}{xs:List τ.den}{x:Value}{l:List Value}{S S':Nat->Prop}(h1:w.ownsRow 0 e τ.size x xs.length l)(h2:dU w S (xs.map τ.aP) l)(h3:xs.length<=140737488355328)(hS:∀ b,S b->S' b)(hb:∀ b,ef x=some b->S' b) :
  Rd w S' (Ty.aP (.slice τ) xs) [x]:=by
 rcases h1.2 with ⟨hv,hn⟩|⟨g,cap,cur,hv,_,hh,YC,hcm,kj,htk⟩
 .have hx:xs=[]:=b5U hn;subst hx;exact⟨none,0,by simp[hv],by simp,by simp[maxLen],by simp, .inl rfl⟩
 .refine⟨some ⟨g,0,none⟩,cap,by simp[hv],by simpa using YC,hcm,by simpa using h3,?_⟩;refine .inr ⟨g,0,rfl,hb g (by rw[hv];rfl),?_⟩;refine dU.row _ g 0 (h2.aR hS (λ _ _=>rfl)) λ j v hj=>?_;have:=h1.cells (g:=g) (by rw[hv];rfl) j v hj;rw[Addr.add_lit] at this;exact this
theorem a5U{o:Oper}{τ:Ty}{xs:List τ.den}{e:TypeId}{x:Value}{l:List Value}{Q:Exit->Act->World->Prop}(hI:bw c G sl n lk a w)(hr:(execOp a.eval o).run c.P w = .ok (.value x) w')(hk:bD (λ _=>False) w w')
  (h1:w'.ownsRow 0 e τ.size x xs.length l) (h2:dU w' G.S (xs.map τ.aP) l) (h3:xs.length<=140737488355328) (hb:∀ b,ef x=some b->w.heap.size<=b/\b<w'.heap.size) :
  o.wp c.P a w (Ay c G sl n lk o.dst a w (.aH ⟨.slice τ,xs⟩) none) Q:=by
 unfold Oper.wp;rw[hr];refine⟨x,λ b=>G.S b\/ef x=some b,rfl,hI.grow hk (λ b cA=>⟨λ q=>q.elim id λ q=>absurd (hb b q).1 (by omega), .inl⟩) λ b q=>q.elim (λ q=>Nat.lt_of_lt_of_le (hI.dB b q) hk.size) λ q=>(hb b q).2,?_⟩;exact ZT h1 h2 h3 (λ _ q => .inl q) (λ _ q => .inr q)
theorem Tz{v:TV}(h:v.flat=true){S S':Nat->Prop}{w w':World}{cs:List Value}(hr:Rd w S v.aP cs):Rd w' S' v.aP cs:=by
 have one:∀ u:TV,u.τ.agg=false->(match u.τ with | .slice _=>false | .mv _=>false|_=>true)=true->∀ cs,Rd w S u.aP cs->Rd w' S' u.aP cs:=by
  intro u h1 h2 cs h3;obtain⟨τ,y⟩:=u;cases τ<;>first|exact h3|(cases h1;done)|(simp at h2;done)
 obtain⟨τ,y⟩:=v;cases τ with
 | st s =>
  rw[show TV.aP ⟨.st s,y⟩=s.aP y from rfl,aV.cz] at hr ⊢;refine dq.dJ.2 ((dq.dJ.1 hr).imp λ u x hu hx=>?_);refine one u ?_ (b5F.1 h u hu) _ hx;have:=aV.pE s y u hu;obtain⟨bf,z⟩:=u;cases bf with
  | st s'=>simp[TV.aP,Ty.aP,aV.cz,D.leaf] at this
  | _=>rfl
 | slice t=>simp[TV.flat,TV.cells] at h
 | mv t=>simp[TV.flat,TV.cells] at h
 | ptr=>exact hr
 | int k=>exact hr
 | bool=>exact hr
 | str=>exact hr
theorem Wj{v:TV}(h:v.flat=true){S S':Nat->Prop}{w w':World}{x:Value}(hr:dV w S v x):dV w' S' v x:=by
 obtain⟨τ,y⟩:=v;cases τ with
 | st s =>
  obtain⟨cs,h1,h2⟩:=hr;exact⟨cs,h1,Tz (v:=⟨.st s,y⟩) h h2⟩
 | _=>exact Tz (v:=⟨_,y⟩) (w:=w) (w':=w') (S:=S) (S':=S') h hr
theorem FF{lk':Nat->Option aB}(ct:∀ id o,lk' id=some o->lk id=some o):∀ id o,te lk' id=some o->lk id=some o:=by
 intro id o h;unfold te at h;split at h
 .rename_i cs hc;simp only[b4L] at h;subst h;exact ct _ _ hc
 .cases h
theorem FG{lk':Nat->Option aB}:∀ id e τ xs,te lk' id≠some (.row e τ xs):=by
 intro id e τ xs h;unfold te at h;split at h<;>simp at h
theorem BK{lk':Nat->Option aB}:∀ id τ xs,te lk' id≠some (.av τ xs):=by
 intro id τ xs h;unfold te at h;split at h<;>simp at h
theorem a3Z{τ:Ty}{cs:List Value}{x:τ.den}{S:Nat->Prop}(h:dV w S ⟨τ,x⟩ (Ls τ cs))(hl:cs.length=τ.size):Rd w S (τ.aP x) cs:=by
 cases τ with
 | st s =>
  obtain⟨dE,h1,h2⟩:=h;simp only[Ls,Value.agg.injEq] at h1;have:cs=dE:=by have:=congrArg Array.toList h1;simpa using this
  subst this;exact h2
 | _ =>
  match cs,hl with
  | [v],_=>exact h
theorem CR.fU{v:AV}{x:Value}(h:CR c G lk w v x):VR c G lk w v x:=by
 cases v with
 | aH v=>exact h
 | agg cs=>exact h
 | any=>trivial
 | ep=>exact h
 | iS _=>exact h.elim
 | dc _ _=>exact h.elim
 | nil=>exact h
 | cX v=>exact h
 | ptr i o=>exact h
 | row i=>exact h
 | eH i k o=>exact h
 | fn f=>exact h
 | av i=>exact h
 | sub i k o z=>exact h
 | eP i k o z=>exact h
 | iF v=>exact h
 | mp i=>exact h
theorem C1.a2W{v:AV}{x:Value}(h:C1 c G lk w v x):CR c G lk w v x:=by
 cases v with
 | aH v=>exact C1.fU (v := .aH v) h
 | agg cs=>exact h.elim
 | iS cs=>exact h.elim
 | dc f cs=>exact h.elim
 | _=>exact h
theorem CR.inv{v:AV}{x:Value}(h:CR c G lk w v x):(∃ u,v = .aH u/\dV w G.S u x)\/(∃ cs l,v = .agg cs/\x = .agg l.toArray/\aT (C1 c G lk w) cs l)\/C1 c G lk w v x:=by
 cases v with
 | aH v=>exact .inl ⟨v,rfl,h⟩
 | agg cs =>
  obtain⟨l,h1,h2⟩:=h;exact .inr (.inl ⟨cs,l,rfl,h1,h2⟩)
 | _=>exact .inr (.inr h)
theorem VR.a2W{v:AV}{x:Value}(h:VR c G lk w v x)(hc:v.a7o=true):CR c G lk w v x:=by
 cases v with
 | iS _=>cases hc
 | dc _ _=>cases hc
 | ep=>cases hc
 | iF _=>cases hc
 | _=>exact h
theorem Iu{S:Nat->Prop}{lk':Nat->Option aB}(hI:bw c G sl n lk a w)(ct:∀ id o,lk' id=some o->lk id=some o)
  (ib:∀ (τ:Ty) v x (y:τ.den),Ae lk' τ v=some y->VR c G lk w v x->dV w S ⟨τ,y⟩ x) {τ:Ty} {v:AV} {x:Value} {y:τ.den} (hy:deref lk' τ v=some y) (hx:VR c G lk w v x):Mo w S (.ref ⟨τ,y⟩) x:=by
 unfold deref at hy;split at hy
 .rename_i u hu;obtain⟨b,o,cs,h1,h2,h3,h4⟩:=qL hI.aJ ct hu hx;have h5:=a3Z (ib _ _ _ _ hy h4) h3;have Qi:=τ.size_pos;have hc0:=h2 0 (cs[0]'(by omega)) (b5p (by omega));exact⟨b,o,cs,h1,World.block_lt_of_cell? w _ hc0,h2,h5⟩
 .cases hy
theorem EZ{S:Nat->Prop}{lk':Nat->Option aB}(hI:bw c G sl n lk a w)(ct:∀ id o,lk' id=some o->lk id=some o)
  (ib:∀ (τ:Ty) v x (y:τ.den),Ae lk' τ v=some y->VR c G lk w v x->dV w S ⟨τ,y⟩ x) :
  ∀ {ks:List (Bool×Ty)} {vs:List AV} {Z9:List Arg} {xs:List Value},qa lk' ks vs=some Z9->aT (CR c G lk w) vs xs->aT (Mo w S) Z9 xs
 | [],[],Z9,xs,h,hv=>by
  simp only[qa,b4L] at h;subst h;match xs,hv with
  | [],_=>trivial
 | (true,τ)::ks,v::vs,Z9,xs,h,hv=>by
  simp only[qa] at h;split at h
  .rename_i y hy;split at h
   .rename_i r hr;simp only[b4L] at h;subst h;match xs,hv with
    | x::xs,hv=>exact⟨Iu hI ct ib hy hv.1.fU,EZ hI ct ib hr hv.2⟩
   .cases h
  .cases h
 | (false,τ)::ks,v::vs,Z9,xs,h,hv=>by
  simp only[qa] at h;split at h
  .rename_i y hy;split at h
   .rename_i r hr;simp only[b4L] at h;subst h;match xs,hv with
    | x::xs,hv=>exact⟨ib _ _ _ _ hy hv.1.fU,EZ hI ct ib hr hv.2⟩
   .cases h
  .cases h
 | [],_::_,_,_,h,_=>by cases h
 | (true,_)::_,[],_,_,h,_=>by cases h
 | (false,_)::_,[],_,_,h,_=>by cases h
theorem xY(hE:bF c.P c.E){f:FuncId}{eE:List Arg}:∀ (ps:List Ty) (r:Ty) (acc:List Arg),EG c.P f eE ps r (V1 c.E f eE ps r acc) acc
 | [],r,acc=>by
  show (V1 c.E f eE [] r acc).1->_;intro hp;generalize hF:V1 c.E f eE [] r acc=F at hp ⊢;rw[V1] at hF;split at hF
  .rename_i pre v hc;split at hF
   .rename_i y hy;subst hF;have:=TV.aU hy;subst this;obtain⟨h1,h2⟩:=hE.Pv f _ _ _ hc hp;exact⟨h1,h2.ok0⟩
   .subst hF;exact hp.elim
  .subst hF;exact hp.elim
 | t::ts,r,acc=>λ x=>xY hE ts r (acc++[.val ⟨t,x⟩])
theorem Tj{P:Program}{f:FuncId}{eE:List Arg}:∀ {ps:List Ty} {r:Ty} {F:FN ps r} {acc Z9:List Arg} {p:Prop} {y:r.den},EG P f eE ps r F acc->uB ps r F Z9=some (p,y)->p ->
  (iw P f/\ON P f (acc++Z9++eE) (·=[⟨r,y⟩]))/\∀ z∈Z9,∃ v,z = .val v
 | [],r,F,acc,[],p,y,h,e,hp=>by
  simp only[uB,Option.some.injEq] at e;have h':F.1->iw P f/\ON P f (acc++eE) (·=[⟨r,F.2⟩]):=h;rw[e] at h';refine⟨by simpa using h' hp,by simp⟩
 | t::ts,r,F,acc, .val z::zs,p,y,h,e,hp=>by
  simp only[uB] at e;split at e
  .rename_i x hx;have h':∀ x,EG P f eE ts r (F x) (acc++[.val ⟨t,x⟩]):=h;obtain⟨h1,h2⟩:=Tj (h' x) e hp;have:=TV.aU hx;subst this;refine⟨by simpa using h1,λ z hz=>?_⟩;rcases List.mem_cons.1 hz with rfl|hz
   .exact⟨_,rfl⟩
   .exact h2 z hz
  .cases e
 | [],_,_,_,_::_,_,_,_,e,_=>by simp[uB] at e
 | _::_,_,_,_,[],_,_,_,e,_=>by simp[uB] at e
 | _::_,_,_,_, .ref _::_,_,_,_,e,_=>by simp[uB] at e
 | _::_,_,_,_, .fn _::_,_,_,_,e,_=>by simp[uB] at e
 | _::_,_,_,_, .dc _::_,_,_,_,e,_=>by simp[uB] at e
theorem E4(hE:bF c.P c.E){S:Nat->Prop}{lk':Nat->Option aB}(hI:bw c G sl n lk a w)(ct:∀ id o,lk' id=some o->lk id=some o)(Uj:∀ b,G.S b->S b)
  (ib:∀ (τ:Ty) v x (y:τ.den),Ae lk' τ v=some y->VR c G lk w v x->dV w S ⟨τ,y⟩ x) {g:AV} {x:Value} {q:FV} (h:E3 c.E lk' g=some q) (hx:VR c G lk w g x):Ax c.P w S (.dc q) x:=by
 unfold E3 at h;split at h
 .rename_i f cs;split at h
  .rename_i k _;split at h
   .rename_i Z9 has;simp only[b4L] at h;subst h;obtain⟨l,h1,h2⟩:=hx;exact⟨f,Z9,l,h1,xY hE _ _ _,EZ hI ct ib has h2⟩
   .cases h
  .cases h
 .simp only[b4L] at h;subst h;obtain⟨f,eE,l,h1,h2,h3⟩:=hx;refine⟨f,eE,l,h1,h2,h3.imp λ u y _ hy=>?_⟩;cases u with
  | val v=>exact dV.mono (G:=G) (G':=⟨S,G.η,G.φ⟩) hy Uj (λ _ _=>rfl)
  | ref v =>
   obtain⟨b,o,cs,k1,k2,k3,k4⟩:=hy;refine⟨b,o,cs,k1,?_,k3,Rd.aR Uj (λ _ _=>rfl) _ k4⟩;exact k2.elim (hI.dB b) λ k=>b5i k.1 hI.aR.size
  | fn f=>exact hy
  | dc v=>exact hy.elim
  | own v=>exact hy.elim
  | box k=>exact hy.elim
 .rename_i f;split at h
  .rename_i k _;split at h
   .simp only[b4L] at h;subst h;exact⟨f,[],[],hx,xY hE _ _ _,ae⟩
   .cases h
  .cases h
 .cases h
theorem iy(hE:bF c.P c.E){S:Nat->Prop}{lk':Nat->Option aB}(hI:bw c G sl n lk a w)(ct:∀ id o,lk' id=some o->lk id=some o)(Uj:∀ b,G.S b->S b)
  (ib:∀ (τ:Ty) v x (y:τ.den),Ae lk' τ v=some y->VR c G lk w v x->dV w S ⟨τ,y⟩ x) :
  ∀ {Ts:List TypeId} {vs:List AV} {Z9:List Arg} {xs:List Value},mC c.E lk' Ts vs=some Z9->aT (VR c G lk w) vs xs->aT (Ax c.P w S) Z9 xs
 | [],[],Z9,xs,h,hv=>by
  simp only[mC,b4L] at h;subst h;match xs,hv with
  | [],_=>trivial
 | T::Ts,v::vs,Z9,xs,h,hv=>by
  simp only[mC] at h;split at h
  .rename_i p hp;split at h
   .rename_i r hr;simp only[b4L] at h;subst h;match xs,hv with
    | x::xs,hv =>
     refine⟨?_,iy hE hI ct Uj ib hr hv.2⟩;have hx:=hv.1;unfold VK at hp;split at hp
     .split at hp
      .rename_i y hy;simp only[b4L] at hp;subst hp;exact ib _ _ _ _ hy hx
      .cases hp
     .split at hp
      .rename_i τ _;split at hp
       .rename_i y hy;simp only[b4L] at hp;subst hp;exact Iu hI ct ib hy hx
       .cases hp
      .split at hp
       .rename_i q hq;simp only[b4L] at hp;subst hp;exact E4 hE hI ct Uj ib hq hx
       .split at hp
        .simp only[b4L] at hp;subst hp;exact hx
        .cases hp
   .cases h
  .cases h
 | [],_::_,_,_,h,_=>by cases h
 | _::_,[],_,_,h,_=>by cases h
theorem BO{S:Nat->Prop}{res:List TV}{x:Value}(h:HS w S res x){η:Nat->Value}{φ:Nat->List Nat}:VR c ⟨S,η,φ⟩ lk w (FL res) x:=by
 match res,h with
 | [v],h=>exact h
 | [],h =>
  obtain⟨l,h1,h2⟩:=h;exact⟨l,h1,aT.dZ _ h2⟩
 | v::u::r,h =>
  obtain⟨l,h1,h2⟩:=h;exact⟨l,h1,aT.dZ _ h2⟩
theorem Zv{S S':Nat->Prop}{res:List TV}{x:Value}(hf:res.all TV.flat=true)(h:HS w S res x):HS w S' res x:=by
 have ji:∀ v∈res,v.flat=true:=b5F.1 hf;match res,h,ji with
 | [v],h,ji=>exact Wj (ji v (by simp)) h
 | [],h,ji =>
  obtain⟨l,h1,h2⟩:=h;exact⟨l,h1,h2.imp λ v y hv hy=>Wj (ji v hv) hy⟩
 | v::u::r,h,ji =>
  obtain⟨l,h1,h2⟩:=h;exact⟨l,h1,h2.imp λ v y hv hy=>Wj (ji v hv) hy⟩
theorem Tr(hE:bF c.P c.E)(hI:bw c G sl n lk a w){lk':Nat->Option aB}(ct:∀ id o,lk' id=some o->lk id=some o){o:Oper}{f:FuncId}{Ts:List TypeId}{vs:List AV}{xs:List Value}
  {vc:Vc} {v:AV} {ob:Option aB} (hq:J5 c.E lk' f Ts vs=some (vc,v,ob)) (eb:vc.ok) (lh:aT (VR c G lk w) vs xs)
  (cI:iw c.P f->(execOp a.eval o).run c.P w = .ok (.enter f xs.toArray) w) {Q:Exit->Act->World->Prop}:o.wp c.P a w (Ay c G sl n lk o.dst a w v ob) Q:=by
 have fin:∀ (S:Nat->Prop) (Z9:List Arg) (pre:Vc) (res:List TV),c.E.Pv f Z9=some (pre,res)->pre.ok->aT (Ax c.P w S) Z9 xs->tm w S ->
   (∀ S' w' x,bD (λ _=>False) w w'->(∀ b,b<w.heap.size->(S' b↔S b))->(∀ b,S' b->b<w'.heap.size)->HS w' S' res x->Ay c G sl n lk o.dst a w (FL res) none (a.put o.dst x) w') ->
   o.wp c.P a w (Ay c G sl n lk o.dst a w (FL res) none) Q:=by
  intro S Z9 pre res hc yI has bK NA;obtain⟨l7,gC⟩:=hE.Pv f Z9 pre res hc yI;unfold Oper.wp;rw[cI l7];simp only[Oper.upon];refine (gC w S xs bK has).mono ?_;rintro e w' ⟨x,S',b3R,rfl,rfl,h1,h2,h3,h4⟩;exact NA S' w' x h1 h2 h3 h4
 unfold J5 at hq;split at hq
 .rename_i Z9 has;split at hq
  .rename_i pre res hc;simp only[b4L,b4P] at hq;obtain⟨rfl,rfl,rfl⟩:=hq;refine fin G.S Z9 _ _ hc eb (iy hE hI (FF ct) (λ _ h=>h) (λ τ v x y h1 h2=>CP FG BK h1 h2) has lh) hI.sOk ?_;intro S' w' x h1 h2 h3 h4;exact⟨x,S',rfl,hI.grow h1 h2 h3,BO h4⟩
  .cases hq
 .split at hq
  .rename_i Z9 has;split at hq
   .rename_i pre res hc;split at hq
    .rename_i Yy;simp only[b4L,b4P] at hq;obtain⟨rfl,rfl,rfl⟩:=hq;refine fin (SX G lk) Z9 _ _ hc eb (iy hE hI ct (λ _ h => .inl h) (λ τ v x y h1 h2=>AA hI.aL hI.aJ ct h1 h2) has lh) ?_ ?_
     .exact hI.a2U
     .intro S' w' x h1 h2 h3 h4;exact⟨x,G.S,rfl,hI.grow (S':=G.S) h1 (λ _ _=>b6P) (λ b hb=>b5i (hI.dB b hb) h1.size),BO (Zv Yy h4)⟩
    .cases hq
   .cases hq
  .cases hq
theorem YX{o:Oper}{cl:Call}{fo:Operand}{f:FuncId}{l:List Value}(ho:o.op = .call cl)(hc:cl.callee = .value fo)(hf:a.eval fo = .func (.func f) #[] l.toArray)(l7:iw c.P f) :
  (execOp a.eval o).run c.P w = .ok (.enter f (cl.args.toList.map a.eval++l).toArray) w:=by
 obtain⟨fn,h1,h2,h3⟩:=l7;have h3':(fn.name = "runtime.NumGoroutine")=False:=by simpa using h3
 have h2':fn.body≠none:=by intro e;simp[e] at h2
 simp[execOp,ho,resolve,hc,Deferred.ofValue,hf,invoke,callFunc,h1,h2',h3']
theorem Il(hE:bF c.P c.E)(hI:bw c G sl n lk a w){lk':Nat->Option aB}(ct:∀ id o,lk' id=some o->lk id=some o){o:Oper}{cl:Call}{fo:Operand}{g:AV}{Ts:List TypeId}{vs:List AV}
  {vc:Vc} {v:AV} {ob:Option aB} (hq:Dh c.E lk' g Ts vs=some (vc,v,ob)) (eb:vc.ok) (lh:aT (VR c G lk w) vs (cl.args.toList.map a.eval)) (bz:o.op = .call cl) (fZ:cl.callee = .value fo) (hg:VR c G lk w g (a.eval fo))
  {Q:Exit->Act->World->Prop}:o.wp c.P a w (Ay c G sl n lk o.dst a w v ob) Q:=by
 have fin:∀ (S:Nat->Prop) (Z9:List Arg) (q:FV) (pre:Prop) (y:q.r.den),uB q.ps q.r q.F Z9=some (pre,y)->pre->aT (Ax c.P w S) Z9 (cl.args.toList.map a.eval)->Ax c.P w S (.dc q) (a.eval fo)->tm w S ->
   (∀ S' w' x,bD (λ _=>False) w w'->(∀ b,b<w.heap.size->(S' b↔S b))->(∀ b,S' b->b<w'.heap.size)->HS w' S' [⟨q.r,y⟩] x->Ay c G sl n lk o.dst a w (FL [⟨q.r,y⟩]) none (a.put o.dst x) w') ->
   o.wp c.P a w (Ay c G sl n lk o.dst a w (FL [⟨q.r,y⟩]) none) Q:=by
  intro S Z9 q pre y hap yI has b3q bK NA;obtain⟨f,eE,l,h1,h2,h3⟩:=b3q;obtain⟨⟨l7,gC⟩,a1Z⟩:=Tj h2 hap yI;unfold Oper.wp;rw[YX bz fZ h1 l7];simp only[Oper.upon];simp only[List.nil_append] at gC;have b3l:aT (Mo w S) Z9 (cl.args.toList.map a.eval):=has.imp λ u z hu hz=>by
   obtain⟨v,rfl⟩:=a1Z u hu;exact hz
  refine (gC w S _ bK (b3l.append h3)).mono ?_;rintro e w' ⟨x,S',b3R,rfl,rfl,h1,h2,h3,h4⟩;exact NA S' w' x h1 h2 h3 h4
 unfold Dh at hq;split at hq
 .rename_i r0 WM;split at WM
  .rename_i Z9 has;split at WM
   .rename_i q hqq;split at WM
    .rename_i pre y hap;simp only[b4L] at WM hq;subst WM;simp only[b4P] at hq;obtain⟨rfl,rfl,rfl⟩:=hq;refine fin G.S Z9 q pre y hap eb (iy hE hI (FF ct) (λ _ h=>h) (λ τ v x y h1 h2=>CP FG BK h1 h2) has lh) (E4 hE hI (FF ct) (λ _ h=>h) (λ τ v x y h1 h2=>CP FG BK h1 h2) hqq hg) hI.sOk ?_;intro S' w' x h1 h2 h3 h4;exact⟨x,S',rfl,hI.grow h1 h2 h3,BO h4⟩
    .cases WM
   .cases WM
  .cases WM
 .split at hq
  .rename_i Z9 has;split at hq
   .rename_i q hqq;split at hq
    .rename_i pre y hap;split at hq
     .rename_i Yy;simp only[b4L,b4P] at hq;obtain⟨rfl,rfl,rfl⟩:=hq;refine fin (SX G lk) Z9 q pre y hap eb (iy hE hI ct (λ _ h => .inl h) (λ τ v x y h1 h2=>AA hI.aL hI.aJ ct h1 h2) has lh) (E4 hE hI ct (λ _ h => .inl h) (λ τ v x y h1 h2=>AA hI.aL hI.aJ ct h1 h2) hqq hg) ?_ ?_
      .exact hI.a2U
      .intro S' w' x h1 h2 h3 h4;exact⟨x,G.S,rfl,hI.grow (S':=G.S) h1 (λ _ _=>Iff.rfl) (λ b hb=>Nat.lt_of_lt_of_le (hI.dB b hb) h1.size),BO (Zv (res:=[⟨q.r,y⟩]) (by simpa using Yy) h4)⟩
     .cases hq
    .cases hq
   .cases hq
  .cases hq
theorem fT{o:Oper}{cl:Call}{fo:Operand}{f:FuncId}(ho:o.op = .call cl)(hc:cl.callee = .value fo)(hf:a.eval fo = .func (.func f) #[] #[])(l7:iw c.P f) :
  (execOp a.eval o).run c.P w = .ok (.enter f (cl.args.toList.map a.eval).toArray) w:=by
 obtain⟨fn,h1,h2,h3⟩:=l7;have h3':(fn.name = "runtime.NumGoroutine")=False:=by simpa using h3
 have h2':fn.body≠none:=by intro e;simp[e] at h2
 simp[execOp,ho,resolve,hc,Deferred.ofValue,hf,invoke,callFunc,h1,h2',h3'];apply b8E;simp
theorem aT.kz{ev:Operand->AV}(cU:∀ x,VR c G lk w (ev x) (a.eval x)):∀ l:List Operand,aT (VR c G lk w) (l.map ev) (l.map a.eval)
 | []=>trivial
 | x::r=>⟨cU x,aT.kz cU r⟩
theorem aT.Kk{ev:Operand->AV}(cU:∀ x,VR c G lk w (ev x) (a.eval x)):∀ l:List (Nat×Operand),
  aT (λ p q=>p.1=q.1/\VR c G lk w p.2 q.2) (l.map λ p=>(p.1,ev p.2)) (l.map λ p=>(p.1,a.eval p.2))
 | []=>trivial
 | x::r=>⟨⟨rfl,cU x.2⟩,aT.Kk cU r⟩
theorem jT{S:Nat->Prop}{t:Ty}{xs:List t.den}{x:Value}(h:dV w S ⟨.slice t,xs⟩ x):∃ ad cap,x = .slice ad xs.length cap/\xs.length<=cap/\xs.length<=140737488355328 /\
  (xs=[]\/∃ b o,ad=some ⟨b,o,none⟩/\S b/\dw w S (xs.map t.aP) b o):=by
 obtain⟨ad,cap,h1,h2,h3,h4,h5⟩:=h;simp only[List.cons.injEq,and_true,List.length_map] at h1;exact⟨ad,cap,h1,by simpa using h2,by simpa using h4,h5.imp (λ h=>by simpa using h) id⟩
theorem a9M(lo hi m n:Int)(h1:lo<=m/\m<=hi)(h2:lo<=n/\n<=hi):lo<=max m n/\max m n<=hi:=by omega
theorem a9L(m n:Int):(if n>m then n else m)=max m n:=by
 rw[Int.max_def];split<;>split<;>omega
theorem a2p(hE:bF c.P c.E){op:BinOp}{T:TypeId}{u v r:AV}{x y:Value}{p:Vc}(ox oy:Operand)
  (h:a0Q c.E op T u v=some (p,r)) (hp:p.ok) (hu:VR c G lk w u x) (hv:VR c G lk w v y) :
  ∃ z,(do eqGuard op T ox oy x y;binOp op T x y:Sem Value).run c.P w = .ok z w/\VR c G lk w r z:=by
 unfold a0Q at h;split at h
 .rename_i t r1 τ xs hl;have hy:y = .slice none 0 0:=hv;subst hy;obtain⟨r1,r2⟩:=r1;obtain⟨hT,_⟩:=hE.slice hl;obtain⟨a,cap,h1,_,h3⟩:=jT hu;subst h1;have heq:(Op.equal T (.slice a xs.length cap) (.slice none 0 0)).run c.P w = .ok a.isNone w:=by
   have h9:∀ d:Nat,(Op.equalIn (d+1) T (.slice a xs.length cap) (.slice none 0 0)).run c.P w = .ok a.isNone w:=λ d=>by
    cases a<;>simp[Op.equalIn,b5N hT]
   exact h9 9999
  have key:1<=xs.length->a.isNone=false:=λ hx=>by
   rcases h3.2 with h|⟨b,o,h,_⟩
   .subst h;simp at hx
   .subst h;rfl
  split at h
  .simp only[b4L,b4P] at h;obtain⟨rfl,rfl⟩:=h;refine⟨.bool false,?_,rfl⟩;simp only[eqGuard_at_slice,b5x,b5A,b5r,binOp,heq,key hp]
  .simp only[b4L,b4P] at h;obtain⟨rfl,rfl⟩:=h;refine⟨.bool true,?_,rfl⟩;simp only[eqGuard_at_slice,b5x,b5A,b5r,binOp,heq,key hp];rfl
  .cases h
 .cases h
theorem a6D{S:Nat->Prop}{t:Ty}{ys:List t.den}{ad:Option Addr}{m cap:Nat}(h1:ys.length=m)(h2:m<=cap)(h3:cap<=maxLen)(h4:m<=140737488355328)
  (h5:ys=[]\/∃ b o,ad=some ⟨b,o,none⟩/\S b/\dw w S (ys.map t.aP) b o):dV w S ⟨.slice t,ys⟩ (.slice ad m cap):=by
 subst h1;exact⟨ad,cap,by simp,by simpa using h2,h3,by simpa using h4,h5.imp (λ h=>by simp[h]) id⟩
theorem ra(hE:bF c.P c.E){T:TypeId}{t:Ty}{b e:Nat}(h:ah c.E.ty T=some (.slice t,b,e)){bk o len cap:Nat}{k:IntKind}{i:Int}(h0:0<=i)(h1:i<len)(w:World) :
  (Instr.indexAt T (.slice (some ⟨bk,o,none⟩) len cap) (.int k i)).run c.P w = .ok (.pointer (some ⟨bk,o+i.toNat * t.size,none⟩)) w:=by
 obtain⟨h2,⟨b',e',h3⟩,_⟩:=hE.slice h;simp[Instr.indexAt,b5N h2,asIntOf,h0,h1,hE.sizeOf h3 w,b7f]
theorem LR(s:aV)(y:s.den)(i:Nat){f:TV}(hf:(s.fields y)[i]?=some f):((s.cells y).drop (s.fu i)).take f.τ.size=f.cells/\s.fu i+f.τ.size<=s.size:=by
 have Fj:∀ v:TV,v.cells.length=v.τ.size:=by
  rintro⟨τ,x⟩;cases τ<;>first|rfl|exact aV.iV _ _
 have key:∀ (l:List TV) (i:Nat) (f:TV),l[i]?=some f->((l.flatMap TV.cells).drop ((l.map TV.τ).take i |>.map Ty.size).sum).take f.τ.size=f.cells/\(((l.map TV.τ).take i).map Ty.size).sum+f.τ.size<=(l.flatMap TV.cells).length:=by
  intro l;induction l with
  | nil=>intro i f h;simp at h
  | cons g l ih =>
   intro i f h;cases i with
   | zero =>
    simp at h;subst h;have:=Fj g;simp only[b5T,b6K,List.sum_nil,b7b,List.flatMap_cons,b5f,b6w];exact⟨by rw[<-this,b7c],by omega⟩
   | succ i =>
    obtain⟨h1,h2⟩:=ih i f (by simpa using h);simp only[List.map_cons,List.take_succ_cons,List.sum_cons,List.flatMap_cons,List.length_append,<-Fj g];refine⟨?_,by omega⟩;rw[<-List.drop_drop,List.drop_left];exact h1
 have:=key _ i f hf;rw[<-aV.LL,aV.AX,aV.iV] at this;exact this
theorem Iy{S:Nat->Prop}{s:aV}{y:s.den}{i:Nat}{f:TV}(hf:(s.fields y)[i]?=some f){cs:List Value}(h:Rd w S (TV.aP ⟨.st s,y⟩) cs):Rd w S f.aP ((cs.drop (s.fu i)).take f.τ.size):=by
 obtain⟨h1,_⟩:=LR s y i hf;rw[show TV.aP ⟨.st s,y⟩=s.aP y from rfl,aV.cz] at h;have h2:=((dq.dJ.1 h).drop (s.fu i)).take f.τ.size;rw[h1] at h2;obtain⟨τ,x⟩:=f;cases τ with
 | st s' =>
  show Rd w S (s'.aP x) _;rw[aV.cz];exact dq.dJ.2 h2
 | _ =>
  simp only[TV.cells] at h2;match hc:(cs.drop (s.fu i)).take (Ty.size _),h2 with
  | [v],h2=>exact h2.1
theorem a1L{S:Nat->Prop}{s:aV}{y:s.den}{i:Nat}{f:TV}(hf:(s.fields y)[i]?=some f){cs:List Value}(h:Rd w S (s.aP y) cs):s.fu i+f.τ.size<=cs.length/\True:=by
 obtain⟨_,h1⟩:=LR s y i hf;have:=Rd.length _ h;rw[aV.cz] at this;simp only[D.size,b5g,aV.iV] at this;exact⟨by omega,ae⟩
theorem Ty.size_le(τ:Ty):τ.size<=100:=by
 have:∀ s:aV,s.size<=100:=by intro s;cases s<;>decide
 cases τ<;>first|exact this _|(simp[Ty.size];done)
theorem Rd.nt{S:Nat->Prop}{τ:Ty}{x:τ.den}{cs:List Value}(h:Rd w S (τ.aP x) cs):∀ u∈cs,u.oneCell'=true:=by
 cases τ with
 | st s =>
  rw[show Ty.aP (.st s) x=s.aP x from rfl,aV.cz] at h;have ha:=dq.dJ.1 h;intro u hu;obtain⟨i,hi,hiu⟩:=b7C hu;have hlen:=ha.length;obtain⟨b,hb,hr⟩:=ha.at_ i (s.cells x)[i] (b5p (by omega));have hbu:b=u:=by
   have:cs[i]?=some u:=by rw[b5p hi,hiu]
   rw[this] at hb;exact (b7E hb).symm
  subst hbu;obtain⟨z,h1,h2⟩:=Rd.vP (aV.pE s x _ (b6h _)) hr;simp only[b4X,b5d] at h1;subst h1;exact By h2
 | _ =>
  obtain⟨z,rfl,h2⟩:=Rd.vP (jG (v:=⟨_,x⟩) rfl) h;intro u hu;simp only[b5t] at hu;subst hu;exact By h2
theorem dU.nt{S:Nat->Prop}{τ:Ty}:∀ {xs:List τ.den} {l:List Value},dU w S (xs.map τ.aP) l->∀ u∈l,u.oneCell'=true
 | [],l,h=>by rw[show l=[] from h];simp
 | x::xs,l,h=>by
  obtain⟨c1,r,rfl,h2,h3⟩:=h;intro u hu;rcases b4Q.1 hu with hu|hu
  .exact Rd.nt h2 u hu
  .exact dU.nt h3 u hu
def Src(w:World)(S:Nat->Prop)(τ:Ty)(ys:List τ.den)(z:Value):Prop :=
 ∃ ad cap,z = .slice ad ys.length cap/\(ys=[]\/∃ b o news,ad=some ⟨b,o,none⟩/\cf w b o news/\dU w S (ys.map τ.aP) news)
theorem JB{lk lk':Nat->Option aB}(ct:∀ id o,lk' id=some o->lk id=some o)(id:Nat)(o:aB)(h:QP lk' id=some o):lk id=some o:=by
 unfold QP at h;split at h
 .cases h
 .exact ct id o h
theorem a2q{lk:Nat->Option aB}(id:Nat)(τ:Ty)(xs:List τ.den):QP lk id≠some (.av τ xs):=by
 unfold QP;split
 .simp
 .rename_i fM;exact fM _ _
theorem a4O(lF:∀ id o,lk id=some o->OR c G lk w id o){lk':Nat->Option aB}(ct:∀ id o,lk' id=some o->lk id=some o)(R3:∀ id τ xs,lk' id≠some (.av τ xs)){τ:Ty}{v:AV}{z:Value}{ys:List τ.den}(h:jN lk' (.slice τ) v=some ys)
  (hv:C1 c G lk w v z):Src w G.S τ ys z:=by
 cases v with
 | aH u =>
  have e:=TV.aU h;subst e;obtain⟨ad,cap,h1,h2,h3,h4⟩:=jT (show dV w G.S ⟨.slice τ,ys⟩ z from hv.2);refine⟨ad,cap,h1,h4.imp id ?_⟩;rintro⟨b,o,h5,h6,h7⟩;obtain⟨news,h8,h9⟩:=dw.cells _ b o h7;exact⟨b,o,news,h5,h9,h8⟩
 | nil =>
  simp only[jN,b4L] at h;subst h;exact⟨none,0,hv, .inl rfl⟩
 | row id =>
  simp only[jN] at h;split at h
  .rename_i e bf xs hl;have e1:=TV.aU h;cases e1;have mV:=ct _ _ hl;obtain⟨l,h1,h2,h3⟩:=lF _ _ mV;rcases h1.2 with ⟨hv',hn⟩|⟨g,cap,cur,hv',_⟩
   .exact⟨none,0,by rw[hv.1,hv',hn], .inl (b5U hn)⟩
   .refine⟨some ⟨g,0,none⟩,cap,by rw[hv.1,hv'], .inr ⟨g,0,l,rfl,?_,h2⟩⟩;intro j u hj;have:=h1.cells (g:=g) (by rw[hv'];rfl) j u hj;rw[b7f] at this;exact this
  .cases h
 | av id =>
  simp only[jN] at h;split at h
  .rename_i hl;exact absurd hl (R3 _ _ _)
  .cases h
 | _=>cases h
theorem Tk{S:Nat->Prop}{base:Nat}(hE:bF c.P c.E){T:TypeId}{τ:Ty}{b e n:Nat}{v z:Value}{l:List Value}{ys:List τ.den}(hT:ah c.E.ty T=some (.slice τ,b,e))(n9:w.ownsRow base e τ.size v n l)
  (a7E:base<=w.heap.size) (ib:Src w S τ ys z) (Fm:bc (n+ys.length) b) (ty:TypeId) :
  ∃ v' w' news,(Builtin.append_ #[T,T] ty #[v,z]).run c.P w = .ok v' w'/\w'.ownsRow base e τ.size v' (n+ys.length) (l++news)/\w.grownBy w' v.ownBlock/\(v'.ownBlock=v.ownBlock\/v'.ownBlock=some w.heap.size) /\
   dU w S (ys.map τ.aP) news/\n+ys.length<=140737488355328:=by
 obtain⟨k1,⟨b',e',k2⟩,i,zv,k3,k4,k5,k6,k7⟩:=hE.slice hT;have R8:zv.cells.size=τ.size:=by
  have:=Rd.length _ (Rs (w:=w) (S:=S) k7);rwa [Ty.cN,b5S] at this
 have Qi:=τ.size_pos;have Uo:(n+ys.length) * b<=140737488355328/\n+ys.length<=140737488355328:=by
  unfold bc at Fm;rw[Nat.mul_add,Nat.mul_one] at Fm;omega
 have Qh:n+ys.length<=maxLen:=by simp only[maxLen];omega
 obtain⟨ad,cap,h1,h4⟩:=ib;subst h1;by_cases hy:ys=[]
 .subst hy;simp only[b5j,b6R] at *
  cases ad with
  | none =>
   refine⟨v,w,[],?_,by simpa using n9,⟨rfl,rfl,rfl,Nat.le_refl _,λ _ _ _=>rfl⟩, .inl rfl,rfl,Uo.2⟩;rcases n9.2 with ⟨rfl,rfl⟩|⟨g,Tt,cur,rfl,_,_,YC,_⟩
   .simp[Builtin.append_,b5N k1,sizeOf,typeInfo,k3,Builtin.lenOf,Builtin.firstCells]
   .simp[Builtin.append_,b5N k1,sizeOf,typeInfo,k3,Builtin.lenOf,Builtin.firstCells,YC,storeCells]
  | some ad =>
   obtain⟨v',w',m1,m2,m3,_,m5⟩:=run_append_own_at (P:=c.P) w base T ty e i zv τ.size b k1 k3 k6 k4 k5 R8 Qi v n l n9 ad 0 cap [] (by simp) (by simp) (by simp) Qh Uo.1 a7E;exact⟨v',w',[],m1,m2,m3,m5,rfl,Uo.2⟩
 .rcases h4 with h4|⟨bk,o',news,rfl,h8,h7⟩
  .exact absurd h4 hy
  .skip;have hlen:news.length=ys.length * τ.size:=by
    have:=dU.length (n:=τ.size) _ h7 (by
     intro d hd;obtain⟨y,_,rfl⟩:=b4W.1 hd;exact Ty.cN τ y)
    simpa using this
   obtain⟨v',w',m1,m2,m3,_,m5⟩:=run_append_own_at (P:=c.P) w base T ty e i zv τ.size b k1 k3 k6 k4 k5 R8 Qi v n l n9 ⟨bk,o',none⟩ ys.length cap news hlen (λ j u hj=>by rw[b7f];exact h8 j u hj) (dU.nt h7) Qh Uo.1 a7E;exact⟨v',w',news,m1,m2,m3,m5,h7,Uo.2⟩
theorem VX{ev:Operand->AV}(cU:∀ x,VR c G lk w (ev x) (a.eval x)){d l:Int}{lo:Option Operand}(h:p9 d (lo.map ev)=some l):(lo=none/\l=d)\/∃ k,lo.map a.eval=some (.int k l):=by
 cases lo with
 | none =>
  simp only[b7T,p9,b4L] at h;exact .inl ⟨rfl,h.symm⟩
 | some x =>
  simp only[b7o,p9] at h;split at h
  .rename_i hn;cases hn
  .rename_i k n hn;simp only[b4L] at h hn;subst h;have hx:=cU x;rw[hn] at hx;obtain⟨hx,_⟩:=hx;simp only[b4X,b5d] at hx;exact .inr ⟨k,by simp[hx]⟩
  .cases h
theorem Tp{ev:Operand->AV}(cU:∀ x,VR c G lk w (ev x) (a.eval x)){l h:Int}{len cap:Nat}{lo hi:Option Operand}(sl:Bool)(hl:p9 0 (lo.map ev)=some l)(hh:p9 (len:Int) (hi.map ev)=some h)
  (hc:cB l h len) (Gc:len<=cap) (P:Program) (w':World):(Instr.sliceBounds sl len cap (lo.map a.eval) (hi.map a.eval) none).run P w' = .ok (l.toNat,h.toNat,cap) w':=by
 obtain⟨h0,h1,h2⟩:=hc;have e1:(h.toNat:Int)=h:=Int.toNat_of_nonneg (by omega);rcases VX cU hl with ⟨rfl,rfl⟩|⟨k,hk⟩<;>rcases VX cU hh with ⟨rfl,rfl⟩|⟨k',kM⟩
 .simp[Instr.sliceBounds]
 .simp[Instr.sliceBounds,kM,b8B,show 0<=h from by omega,show h<=(cap:Int) from by omega]
 .simp[Instr.sliceBounds,hk,b8B,h0,h1]
 .simp[Instr.sliceBounds,hk,kM,b8B,h0,h1,show 0<=h from by omega,show h<=(cap:Int) from by omega,e1]
theorem TO{n m:Int}{b:Nat}(h:bG n m b):0<=n/\n<=m/\m<=140737488355328/\(b:Int) * m<=140737488355328:=by
 obtain⟨h1,h2,h3⟩:=h;have e:m * ((b:Int)+1)=m * b+m:=by rw[Int.mul_add,Int.mul_one]
 have p:0<=m * (b:Int):=Int.mul_nonneg (by omega) (by omega);have q:(b:Int) * m=m * b:=Int.mul_comm _ _;exact⟨h1,h2,by omega,by omega⟩
theorem a6k(hE:bF c.P c.E){T:TypeId}{τ:Ty}{b e:Nat}(hT:ah c.E.ty T=some (.slice τ,b,e)){n m:Int}(h:bG n m b)(w:World)
  (cw:∀ w',bD (λ _=>False) w w'->∀ b,G.S b->w'.heap[b]?=w.heap[b]?) :
  ∃ cap cs,(Instr.makeSlice T (.int .i64 n) (.int .i64 m)).run c.P w = .ok (.slice (some ⟨w.heap.size,0,none⟩) n.toNat cap) (w.alloc (.cells cs e)) /\
   a4L c G lk (w.alloc (.cells cs e)) (.slice (some ⟨w.heap.size,0,none⟩) n.toNat cap) (.row e τ (List.replicate n.toNat τ.zero)):=by
 obtain⟨v1,v2,v3,v4⟩:=TO h;obtain⟨h1,_,i,z,h3,h4,h5,h6,h7⟩:=hE.slice hT;have hzr:=Rs (w:=w) (S:=G.S) h7;have hzl:=Rd.length _ hzr;rw[Ty.cN,b5S] at hzl;have hr:=run_make (P:=c.P) w T e i z h1 h3 h6 .i64 .i64 n m v1 v2 (by rw[h5];omega) (by omega);refine⟨m.toNat,madeCells z.cells (m.toNat * i.size),hr,(madeCells z.cells (n.toNat * z.cells.size)).toList,?_,?_,by simp;omega⟩
 .refine⟨by simp[madeCells,hzl], .inr ⟨w.heap.size,m.toNat,madeCells z.cells (m.toNat * i.size),by simp,b5Y _,b7Z w _,by simp;omega,by simp only[maxLen];omega,by simp[size_madeCells,h4],?_⟩⟩;rw[h4,hzl,b6T];exact GK _ _ _ (b6N _ (by omega))
 .rw[b8Q];exact dU.aR (λ _ h=>h) (cw _ (gD w _)) _ (L8 hzr n.toNat)
theorem bF.map(hE:bF c.P c.E){T:TypeId}{κ ε:Ty}(h:ah c.E.mty T=some (κ,ε))(w:World) :
  ∃ kT eT,c.P.underlying T=some (.map kT eT)/\c.P.underlying kT=some (descOf κ)/\κ.key=true/\ε.key=true/\∃ z,(zeroValue eT).run c.P w = .ok z w/\xb ε ε.zero z:=by
 have:=hE.mty T κ ε h;unfold Xk at this;split at this
 .rename_i k e hu;split at this
  .rename_i κ' r ε' r' hk he;simp only[b4S,b4N] at this;obtain⟨rfl,rfl,h3,h4⟩:=this;obtain⟨i,z,k1,k2,k3,k4⟩:=(hE.info he).ex;have hz:=Rs (w:=w) (S:=λ _=>False) k4;refine⟨k,e,hu,?_,h3,h4,z,by simp[zeroValue,typeInfo,k1,k3],?_⟩
   .obtain⟨b,e'⟩:=r;cases κ' with
    | int q=>exact hE.int hk
    | bool=>exact hE.bool hk
    | str=>exact hE.str hk
    | _=>cases h3
   .have hc:z.cells.toList=[z]:=by
     cases ε'<;>cases z<;>first|rfl|(cases h4;done)|(simp[BT,Ac] at k4;done)
    rw[hc] at hz;exact xb.of h4 hz
  .cases this
 .cases this
theorem Om(hE:bF c.P c.E)(hI:bw c G sl n lk a w){lk':Nat->Option aB}(ct:∀ id o,lk' id=some o->lk id=some o){ev:Operand->AV}(cU:∀ x,VR c G lk w (ev x) (a.eval x))
  {o:Oper} {vc:Vc} {v:AV} {ob:Option aB} (hq:Ol c.E lk' ev o=some (vc,v,ob)) (eb:vc.ok) {Q:Exit->Act->World->Prop} :
  o.wp c.P a w (Ay c G sl n lk o.dst a w v ob) Q:=by
 unfold Ol at hq;split at hq;case h_1 x bz =>
  simp only[b4L,b4P] at hq;obtain⟨rfl,rfl,rfl⟩:=hq;exact cH hI (by simp[execOp,bz]) (cU x)
 case h_2 x bz =>
  simp only[b4L,b4P] at hq;obtain⟨rfl,rfl,rfl⟩:=hq;exact cH hI (by simp[execOp,bz]) (cU x)
 case h_3 cc x y bz =>
  split at hq
  .rename_i hc;simp only[b4L,b4P] at hq;obtain⟨rfl,rfl,rfl⟩:=hq;have h1:=cU cc;rw[hc] at h1;have h1:[a.eval cc]=[.bool true]:=h1;simp only[b4X,b5d] at h1;exact cH hI (by simp[execOp,bz,h1,asBool]) (cU x)
  .rename_i hc;simp only[b4L,b4P] at hq;obtain⟨rfl,rfl,rfl⟩:=hq;have h1:=cU cc;rw[hc] at h1;have h1:[a.eval cc]=[.bool false]:=h1;simp only[b4X,b5d] at h1;exact cH hI (by simp[execOp,bz,h1,asBool]) (cU y)
  .cases hq
 case h_4 T bz =>
  split at hq
  .rename_i d τ r hd hT;simp only[b4L,b4P] at hq;obtain⟨rfl,rfl,rfl⟩:=hq;obtain⟨i,z,h1,h2,h3,h4⟩:=(hE.info hT).ex;refine Dm hI (x := .pointer (some ⟨w.heap.size,0,none⟩)) (w':=w.alloc (.cells z.cells T)) ?_ (hI.alloc _) ⟨d,hd,rfl⟩ ?_ ?_
   .simp[execOp,bz,Instr.alloc,zeroValue,typeInfo,h1,h3,newVar,newRow]
   .exact⟨_,z.cells.toList,T,rfl,by simpa using heap_alloc_new w _,kV h4⟩
   .intro b hb;simp only[ef,b4L] at hb;subst hb;simp
  .cases hq
 case h_5 T x bz =>
  split at hq
  .rename_i d τ r hd hT;split at hq
   .split at hq
    .rename_i y hy;simp only[b4L,b4P] at hq;obtain⟨rfl,rfl,rfl⟩:=hq;have ib:=dV.cells (O0 (c:=c) (G:=G) (lk:=lk) hy (cU x));have hk:=gD w (.cells (a.eval x).cells T);have cK:(w.alloc (.cells (a.eval x).cells T)).heap.size=w.heap.size+1:=by simp
     have Ap:=hI.grow (S':=λ b=>G.S b\/b=w.heap.size) hk (λ b hb=>⟨λ h=>h.elim id λ e=>by omega, .inl⟩) (λ b hb=>by
      rcases hb with hb|hb
      .have:=hI.dB b hb;omega
      .omega)
     have cI:(execOp a.eval o).run c.P w = .ok (.value (.pointer (some ⟨w.heap.size,0,none⟩))) (w.alloc (.cells (a.eval x).cells T)):=by
      simp[execOp,bz,Instr.box,newVar,newRow]
     unfold Oper.wp;rw[cI];refine⟨_,_,rfl,Ap,?_⟩;refine⟨w.heap.size,0,(a.eval x).cells.toList,rfl, .inl (.inr rfl),?_,Rd.aR (λ _ h => .inl h) (λ b hb=>hk.block b (hI.dB b hb) λ h=>h) _ ib⟩;have:=heap_alloc_new w (.cells (a.eval x).cells T);exact Ip (p:=[]) (c:=(a.eval x).cells.toList) (r:=[]) (by simpa using this)
    .cases hq
   .split at hq
    .rename_i cs kj;simp only[b4L,b4P] at hq;obtain⟨rfl,rfl,rfl⟩:=hq;obtain⟨h1,_,_⟩:=B0 kj (cU x);refine Dm hI (x := .pointer (some ⟨w.heap.size,0,none⟩)) (w':=w.alloc (.cells (a.eval x).cells T)) ?_ (hI.alloc _) ⟨d,hd,rfl⟩ ?_ ?_
     .simp[execOp,bz,Instr.box,newVar,newRow]
     .exact⟨_,(a.eval x).cells.toList,T,rfl,by simpa using heap_alloc_new w _,h1.imp λ u y _ hy=>hI.b1B (gD w _) hy⟩
     .intro b hb;simp only[ef,b4L] at hb;subst hb;simp
    .cases hq
  .cases hq
 case h_6 T parts bz =>
  split at hq
  .rename_i s r hT;split at hq
   .rename_i cs kj;simp only[b4L,b4P] at hq;obtain⟨rfl,rfl,rfl⟩:=hq;obtain⟨i,z,h1,h2,h3,h4⟩:=(hE.info hT).ex;obtain⟨fs,h5,h6,h7⟩:=hE.st hT;have WK:fs.toList.mapM (λ f=>(c.P.info? f.type).map λ i=>(f.offset,i.size))=some (fs.toList.map λ f=>(f.offset,c.P.cellsOf f.type)):=by
     have:∀ l:List Field,(∀ f∈l,∃ i,c.P.info? f.type=some i)->l.mapM (λ f=>(c.P.info? f.type).map λ i=>(f.offset,i.size))=some (l.map λ f=>(f.offset,c.P.cellsOf f.type)):=by
      intro l;induction l with
      | nil=>intro _;rfl
      | cons f l ih =>
       intro hl;obtain⟨i,hi⟩:=hl f (by simp);simp[b7t,hi,ih λ f hf=>hl f (by simp[hf]),Program.cellsOf]
     refine this _ λ f hf=>?_;obtain⟨j,hj,hjf⟩:=List.getElem_of_mem hf;obtain⟨t,b,e,_,k2,_⟩:=h7 j f (by rw[Array.getElem?_eq_getElem (by simpa using hj)];simpa using hjf);obtain⟨i,_,hi,_⟩:=(hE.info k2).ex;exact⟨i,hi⟩
    have a9G:∀ i t,s.fX[i]?=some t->(fs.toList.map λ f=>(f.offset,c.P.cellsOf f.type)).toArray[i]?=some (s.fu i,t.size):=by
     intro i t hi;have bK:i<fs.size:=by have:=(b5K.1 hi).1;omega
     obtain⟨t',b,e,k1,k2,k3⟩:=h7 i fs[i] (b6c bK);rw[hi] at k1;simp only[b4L] at k1;subst k1;obtain⟨i',_,nU,cK,_⟩:=(hE.info k2).ex;simp[bK,k3,Program.cellsOf,nU,cK]
    obtain⟨l',h8,h9⟩:=Mj (c:=c) (G:=G) (lk:=lk) (w:=w) a9G kj (aT.Kk cU _) (kV h4);have hb:c.P.built T ((parts.map λ (i,x)=>(i,a.eval x)).toList)=some l'.toArray:=by
     unfold Program.built;rw[h1,h5];simp only[h3,WK];rw[<-h8];congr 1;simp
    refine cH hI (x := .agg l'.toArray) ?_ ⟨l',rfl,h9⟩;simp[execOp,bz,run_build w T _ _ hb]
   .cases hq
  .cases hq
 case h_7 T len parts bz =>
  split at hq
  .rename_i d τ b e hd hT;split at hq
   .rename_i hlen;split at hq
    .rename_i xs lh;simp only[b4S] at hlen;have hl1:=b4O hlen.1;have hl2:=b5R hlen.2;subst hl1;obtain⟨h1,⟨b',e',h2⟩,i,z,h3,h4,h5,h6,h7⟩:=hE.slice hT;have Qi:=τ.size_pos;have Qh:τ.size<=100:=Ty.size_le τ;have P9:parts.size * τ.size<=16777216:=b6x (b8a hl2 Qh) (by decide);obtain⟨r,h8,h9⟩:=LQ (c:=c) (G:=G) (lk:=lk) (w:=w) (τ:=τ) (place:=λ i=>some (i * τ.size,τ.size)) (λ _=>rfl) (l:=((Array.range (parts.size * τ.size)).map (λ j=>((if parts.size * τ.size=0 then #[] else z.cells:Array Value)[j % (if parts.size * τ.size=0 then #[] else z.cells:Array Value).size]!))).toList) lh (aT.Kk cU _) (by simp);have vI:=F9 lh;simp only[b5g,b5S] at vI;have cK:∀ d∈xs.map τ.aP,d.size=τ.size:=by
      intro d hd;obtain⟨y,_,rfl⟩:=b4W.1 hd;exact Ty.cN τ y
     have hrl:=dU.length _ h9 cK;simp only[b5g,vI] at hrl;simp only[b7S,b5T,b5q,b5X] at h8;have cI:(execOp a.eval o).run c.P w = .ok (.value (.slice (some ⟨w.heap.size,0,none⟩) parts.size parts.size)) (w.alloc (.cells r.toArray e)):=by
      have e2:(parts.map λ (i,x)=>(i,a.eval x)).toList=parts.toList.map λ p=>(p.1,a.eval p.2):=by simp
      have fM:¬ (parts.size * τ.size>2 ^ 24):=by omega
      simp only[execOp,bz,Instr.buildSlice,b5x,b5N h1,b5r,hE.sizeOf h2,b4Z fM,b5A];by_cases h0:parts.size * τ.size=0
      .simp only[h0,b6M,b5x,b5A,b5r,e2] at h8 ⊢;rw[h8];simp[newRow]
      .simp only[h0,b7M,b5x,zeroValue,typeInfo,run_program,b5r,h3,h6,b5A,e2] at h8 ⊢;rw[h8];simp[newRow]
     have ho:(w.alloc (.cells r.toArray e)).ownsRow 0 e τ.size (.slice (some ⟨w.heap.size,0,none⟩) parts.size parts.size) xs.length r:=by
      rw[vI];have:=World.ownsRow_lit (base:=0) (e:=e) (size:=τ.size) w r.toArray parts.size (Nat.zero_le _) (by simp only[maxLen];omega) (by simpa using hrl);simpa using this
     have ib:=dU.aR (λ _ h=>h) (λ b hb=>hI.a1a (gD w (.cells r.toArray e)) b (.inl hb)) _ h9;have iG:∀ b,ef (.slice (some ⟨w.heap.size,0,none⟩) parts.size parts.size)=some b->w.heap.size<=b/\b<(w.alloc (.cells r.toArray e)).heap.size:=by
      intro b hb;simp only[ef,b4L] at hb;subst hb;simp
     split at hq
     .simp only[b4L,b4P] at hq;obtain⟨rfl,rfl,rfl⟩:=hq;exact a5U hI cI (gD w _) ho ib (by omega) iG
     .simp only[b4L,b4P] at hq;obtain⟨rfl,rfl,rfl⟩:=hq;exact Dm hI cI (hI.alloc _) ⟨d,hd,rfl⟩ ⟨r,ho,ib,by omega⟩ iG
    .cases hq
   .cases hq
  .cases hq
 case h_8 T ad bz =>
  split at hq
  .rename_i τ r hT;split at hq
   .rename_i u hu;simp only[b4L,b4P] at hq;obtain⟨rfl,rfl,rfl⟩:=hq;obtain⟨b,o',cs,h1,h2,h3,h4⟩:=qL hI.aJ ct hu (cU ad);refine cH hI ?_ h4;simp only[execOp,bz,h1,b5x,jS hE hT h2 h3,b5r,b5A]
   .cases hq
  .cases hq
 case h_9 x bz =>
  have key:∀ u,ev x=u->(∃ b o,a.eval x = .pointer (some ⟨b,o,none⟩))->vc = .none->v=u->ob=none->o.wp c.P a w (Ay c G sl n lk o.dst a w v ob) Q:=by
   rintro u hu ⟨b,o',hx⟩ _ rfl rfl;refine cH hI (x:=a.eval x) ?_ (hu ▸ cU x);simp only[execOp,bz,hx,b5A]
  have hx:=cU x;split at hq
  .rename_i u hu;simp only[b4L,b4P] at hq;rw[hu] at hx;obtain⟨b,o',cs,h1,_⟩:=hx;exact key _ hu ⟨b,o',h1⟩ hq.1.symm hq.2.1.symm hq.2.2.symm
  .rename_i id off hu;simp only[b4L,b4P] at hq;rw[hu] at hx;obtain⟨b,_,h1,_⟩:=hx;exact key _ hu ⟨b,off,h1⟩ hq.1.symm hq.2.1.symm hq.2.2.symm
  .rename_i id i off hu;simp only[b4L,b4P] at hq;rw[hu] at hx;obtain⟨b,_,_,_,_,_,_,_,_,h1⟩:=hx;exact key _ hu ⟨b,_,h1⟩ hq.1.symm hq.2.1.symm hq.2.2.symm
  .cases hq
 case h_10 T x i bz =>
  split at hq
  .rename_i s r hT;have hx:=cU x;split at hq
   .rename_i u hu;rw[hu] at hx;split at hq
    .rename_i y hy;have e:=TV.aU hy;subst e;split at hq
     .rename_i f hf;simp only[b4L,b4P] at hq;obtain⟨rfl,rfl,rfl⟩:=hq;obtain⟨b,o',cs,h1,h2,h3,h4⟩:=hx;have bK:i<s.fX.length:=by
       have:=(b5K.1 hf).1;rw[<-aV.AX s y,b5g];exact this
      refine cH hI (x := .pointer (some ⟨b,o'+s.fu i,none⟩)) ?_ ?_
      .simp only[execOp,bz,h1,b5x,kE hE hT bK,b5r,b5A]
      .refine⟨b,o'+s.fu i,(cs.drop (s.fu i)).take f.τ.size,rfl,h2,h3.part _ _,?_⟩;exact Iy hf h4
     .cases hq
    .cases hq
   .rename_i id off hu;rw[hu] at hx;split at hq
    .rename_i bK;simp only[Option.some.injEq,Prod.mk.injEq] at hq;obtain⟨rfl,rfl,rfl⟩:=hq;have bK:i<s.fX.length:=by simpa [Nat.blt_eq] using bK
     obtain⟨b,h1,h2,h3⟩:=hx;refine cH hI (x := .pointer (some ⟨b,off+s.fu i,none⟩)) ?_ ⟨b,h1,rfl,h3⟩;simp only[execOp,bz,h2,b5x,kE hE hT bK,b5r,b5A]
    .cases hq
   .rename_i id k off hu;rw[hu] at hx;split at hq
    .rename_i bK;simp only[Option.some.injEq,Prod.mk.injEq] at hq;obtain⟨rfl,rfl,rfl⟩:=hq;have bK:i<s.fX.length:=by simpa [Nat.blt_eq] using bK
     obtain⟨b,m,cap,e,τ,xs,h1,h2,h3,h4⟩:=hx;refine cH hI (x := .pointer (some ⟨b,k * τ.size+(off+s.fu i),none⟩)) ?_ ⟨b,m,cap,e,τ,xs,h1,h2,h3,rfl⟩;simp only[execOp,bz,h4,b5x,kE hE hT bK,b5r,b5A,b7L]
    .cases hq
   .cases hq
  .cases hq
 case h_11 T x i bz =>
  split at hq
  .rename_i s r hT;have hx:=cU x;split at hq
   .rename_i u hu;rw[hu] at hx;split at hq
    .rename_i y hy;have e:=TV.aU hy;subst e;split at hq
     .rename_i f hf;simp only[b4L,b4P] at hq;obtain⟨rfl,rfl,rfl⟩:=hq;obtain⟨cs,h1,h2⟩:=hx;have hty:s.fX[i]?=some f.τ:=by rw[<-aV.AX s y,b6D,hf];rfl
      obtain⟨h3,h4⟩:=a1L hf h2;refine cH hI (x:=Ls f.τ ((cs.drop (s.fu i)).take f.τ.size)) ?_ (dV.mk_ (Iy hf h2));simp only[execOp,bz,h1,b5x,XX hE hT hty h3,b5r,b5A]
     .cases hq
    .cases hq
   .rename_i cs hu;rw[hu] at hx;split at hq
    .rename_i τ jB;split at hq
     .rename_i u hg;simp only[b4L,b4P] at hq;obtain⟨rfl,rfl,rfl⟩:=hq;obtain⟨l,h1,h2⟩:=hx;obtain⟨h3,h4,h5⟩:=IE h2 hg;refine cH hI (x:=Ls τ ((l.drop (s.fu i)).take τ.size)) ?_ h3;simp only[execOp,bz,h1,b5x,XX hE hT jB h5,b5r,b5A]
     .cases hq
    .cases hq
   .cases hq
  .cases hq
 case h_12 T x ix bz =>
  split at hq
  .rename_i τ r hT;split at hq
   .rename_i k i hi;have vG:=cU ix;rw[hi] at vG;obtain⟨vG,_⟩:=vG;simp only[b4X,b5d] at vG;have hx:=cU x;split at hq
    .rename_i u hu;rw[hu] at hx;split at hq
     .rename_i xs lh;have e:=TV.aU lh;subst e;simp only[b4L,b4P] at hq;obtain⟨rfl,rfl,rfl⟩:=hq;obtain⟨h0,h1⟩:=eb;obtain⟨ad,cap,h2,h3,h4,h5⟩:=jT hx;rcases h5 with h5|⟨b,o',h5,h6,h7⟩
      .subst h5;simp only[b5j] at h1;omega
      .subst h5;have bK:i.toNat<xs.length:=by omega
       obtain⟨cs,m1,m2,m3⟩:=dw.at_ (n:=τ.size) _ b o' h7 (by
        intro d hd;obtain⟨y,_,rfl⟩:=b4W.1 hd;exact Ty.cN τ y) i.toNat (τ.aP (xs.getD i.toNat τ.zero)) (by simp[List.getD,bK])
       refine cH hI (x := .pointer (some ⟨b,o'+i.toNat * τ.size,none⟩)) ?_ ⟨b,_,cs,rfl, .inl h6,m3,m2⟩;simp only[execOp,bz,h2,vG,b5x,ra hE hT h0 h1,b5r,b5A]
     .cases hq
    .rename_i id hu;rw[hu] at hx;split at hq
     .rename_i e' bf xs hl;split at hq
      .rename_i jB;have jB:=b5E jB;subst jB;simp only[b4L,b4P] at hq;obtain⟨rfl,rfl,rfl⟩:=hq;obtain⟨h0,h1⟩:=eb;obtain⟨h2,_,_⟩:=hx;have mV:=ct _ _ hl;obtain⟨l,m1,_,_⟩:=hI.aJ _ _ mV;have bK:i.toNat<xs.length:=by omega
       rcases m1.2 with ⟨_,hn⟩|⟨g,cap,cur,hv,_⟩
       .omega
       .refine cH hI (x := .pointer (some ⟨g,0+i.toNat * bf.size,none⟩)) ?_ ⟨g,_,cap,e',bf,xs,hv,mV,bK,by simp⟩;simp only[execOp,bz,h2,hv,vG,b5x,ra hE hT h0 h1,b5r,b5A]
      .cases hq
     .cases hq
    .cases hq
   .cases hq
  .cases hq
 case h_13 T x ix bz =>
  split at hq
  .rename_i r hT;split at hq
   .rename_i k i hi;have vG:=cU ix;rw[hi] at vG;obtain⟨vG,_⟩:=vG;simp only[b4X,b5d] at vG;have hx:=cU x;split at hq
    .rename_i xs hu;rw[hu] at hx;simp only[Option.some.injEq,Prod.mk.injEq] at hq;obtain⟨rfl,rfl,rfl⟩:=hq;obtain⟨s,h1,h2,h3⟩:=hx;simp only[List.cons.injEq,and_true] at h1;subst h2;have cK:s.data.toList.length=s.size:=Array.length_toList;have eb:ak i s.data.toList.length:=eb;unfold ak at eb;rw[cK] at eb;have bK:Int.toNat i<s.size:=by omega
     have he:s.data.toList.getD (Int.toNat i) 0=s[Int.toNat i]'bK:=by
      have h5:Int.toNat i<s.data.size:=bK;rw[List.getD_eq_getElem?_getD,List.getElem?_eq_getElem (by simpa using h5)];rfl
     have hr:(execOp a.eval o).run c.P w = .ok (.value (.int .u8 (s[Int.toNat i]'bK).toNat)) w:=by
      simp only[execOp,bz,h1,vG,b5x,run_index_string w T s k i (hE.str hT)];rw[dif_pos eb];rfl
     refine cH hI hr ⟨by rw[he],?_⟩;have:=(s.data.toList.getD (Int.toNat i) 0).toNat_lt;exact⟨Int.natCast_nonneg _,by simp only[IntKind.max,IntKind.signed,IntKind.bits,b4U,b7M];omega⟩
    .cases hq
   .cases hq
  .cases hq
 case h_14 op T x y yt bz =>
  split at hq
  .rename_i p u hu;simp only[b4L,b4P] at hq;obtain⟨rfl,rfl,rfl⟩:=hq;obtain⟨z,h1,h2⟩:=a2p hE x y hu eb (cU x) (cU y);refine cH hI ?_ h2;simp only[execOp,bz];rw[b5x,h1];rfl
  .split at hq
   .rename_i p u hu;simp only[b4L,b4P] at hq;obtain⟨rfl,rfl,rfl⟩:=hq;obtain⟨z,h1,h2⟩:=a3q hE x y hu eb (cU x) (cU y);refine cH hI ?_ h2;simp only[execOp,bz];rw[b5x,h1];rfl
   .cases hq
 case h_15 op xt x bz =>
  split at hq
  .rename_i b hb;simp only[b4L,b4P] at hq;obtain⟨rfl,rfl,rfl⟩:=hq;have hx:=cU x;rw[hb] at hx;have hx:[a.eval x]=[.bool b]:=hx;simp only[b4X,b5d] at hx;exact cH hI (x := .bool !b) (by simp[execOp,bz,hx,Op.unary]) rfl
  .rename_i k i hb;simp only[b4L,b4P] at hq;obtain⟨rfl,rfl,rfl⟩:=hq;have hx:=cU x;rw[hb] at hx;obtain⟨hx,_⟩:=hx;simp only[b4X,b5d] at hx;have hr:=eM eb;have h0:(0:Int) - i = -i:=Int.zero_sub _;exact cH hI (x := .int k (-i)) (by simp[execOp,bz,hx,Op.unary,Op.intArith,h0,ux hr]) ⟨rfl,hr⟩
  .cases hq
 case h_16 src dst x bz =>
  split at hq
  .rename_i k1 r1 k2 r2 hs hd;split at hq
   .rename_i k3 i DE;simp only[b4L,b4P] at hq;obtain⟨rfl,rfl,rfl⟩:=hq;have hx:=cU x;rw[DE] at hx;obtain⟨hx,_⟩:=hx;simp only[b4X,b5d] at hx;have hr:=eM eb;refine cH hI (x := .int k2 i) ?_ ⟨rfl,hr⟩;simp[execOp,bz,hx,convert,b5N (hE.int hs),b5N (hE.int hd),Conv.intToInt,ux hr]
   .cases hq
  .cases hq
 case h_18 t i bz =>
  split at hq
  .rename_i vs ht;split at hq
   .rename_i u hu;simp only[b4L,b4P] at hq;obtain⟨rfl,rfl,rfl⟩:=hq;have hx:=cU t;rw[ht] at hx;obtain⟨l,h1,h2⟩:=hx;obtain⟨z,h3,h4⟩:=h2.at_ i u hu;refine cH hI (x:=z) ?_ ?_
    .simp[execOp,bz,Instr.extract,h1,h3]
    .cases u<;>first|exact h4|exact h4.elim|trivial
   .cases hq
  .cases hq
 case h_19 T l cc bz =>
  split at hq
  .rename_i d τ b e hd hT;split at hq
   .rename_i m m' hm hm';simp only[b4L,b4P] at hq;obtain⟨rfl,rfl,rfl⟩:=hq;have hl:=cU l;have hc:=cU cc;rw[hm] at hl;rw[hm'] at hc;obtain⟨hl,_⟩:=hl;obtain⟨hc,_⟩:=hc;simp only[b4X,b5d] at hl hc;obtain⟨cap,cs,h1,h2⟩:=a6k (c:=c) (G:=G) (lk:=lk) hE hT eb w (λ w' hk b hb=>hI.a1a hk b (.inl hb));refine Dm hI ?_ (hI.alloc _) ⟨d,hd,rfl⟩ h2 ?_
    .simp only[execOp,bz,hl,hc,b5x,h1,b5r,b5A]
    .intro b hb;simp only[ef,b4L] at hb;subst hb;simp
   .cases hq
  .cases hq
 case h_17 T x lo hi mx bz =>
  split at hq
  .rename_i τ r hT;have hx:=cU x;split at hq
   .rename_i u hu;rw[hu] at hx;split at hq
    .rename_i xs lh;have e:=TV.aU lh;subst e;split at hq
     .rename_i l h hl hh;simp only[b4L,b4P] at hq;obtain⟨rfl,rfl,rfl⟩:=hq;obtain⟨ad,cap,h2,h3,h4,h5⟩:=jT hx;obtain⟨k1,⟨b',e',k2⟩,_⟩:=hE.slice hT;have hb:=Tp cU true hl hh eb h3 c.P w;obtain⟨v0,v1,v2⟩:=eb;have cI:(execOp a.eval o).run c.P w = .ok (.value (.slice (if cap=l.toNat then ad else ad.map (·.add (l.toNat * τ.size))) (h.toNat - l.toNat) (cap - l.toNat))) w:=by
       simp only[execOp,bz,h2,Instr.sliceAt,b5x,b5N k1,b5r,Instr.slice,b7T,hb,hE.sizeOf k2,b5A]
      refine cH hI cI ?_;have hlen:((xs.take h.toNat).drop l.toNat).length=h.toNat - l.toNat:=by
       rw[b6f,b5n];omega
      refine a6D hlen (by omega) ?_ (by omega) ?_
      .have:=hx;obtain⟨ad',Tt,m1,m2,m3,_⟩:=this;rw[h2] at m1;simp only[b4X,b6v,b5d] at m1;obtain⟨_,_,rfl⟩:=m1;omega
      .rcases b5Q l.toNat h.toNat with bK|hge
       .right;rcases h5 with h5|⟨b,o',rfl,h6,h7⟩
        .subst h5;simp only[b5j] at v2;omega
        .refine⟨b,o'+l.toNat * τ.size,?_,h6,?_⟩
         .rw[b4Z (by omega)];simp[b7f]
         .rw[List.map_drop,List.map_take];refine dw.a7v _ _ _ _ (dw.a9b _ _ _ _ h7) ?_;intro d hd;obtain⟨y,_,rfl⟩:=b4W.1 (List.mem_of_mem_take hd);exact Ty.cN τ y
       .left;exact b5U (by omega)
     .cases hq
    .cases hq
   .cases hq
  .rename_i r hT;have hx:=cU x;split at hq
   .rename_i xs hu;rw[hu] at hx;split at hq
    .rename_i l h hl hh;simp only[b4L,b4P] at hq;obtain⟨rfl,rfl,rfl⟩:=hq;obtain⟨s,h1,h2,h3⟩:=hx;simp only[b4X,b5d] at h1;subst h2;have cK:s.data.toList.length=s.size:=b5S;rw[cK] at eb hh;have hb:=Tp cU false hl hh eb (b5w _) c.P w;obtain⟨v0,v1,v2⟩:=eb;refine cH hI (x := .string (s.extract l.toNat h.toNat)) ?_ ⟨_,rfl,?_,?_⟩
     .have fM:¬ ((none:Option Value).isSome=true):=by simp
      simp only[execOp,bz,h1,Instr.sliceAt,b5x,b5N (hE.str hT),b5r,Instr.slice,b7T,b4Z fM,hb,b5A]
     .rw[Lib.extract_data,List.drop_take]
     .have:(s.extract l.toNat h.toNat).size<=s.size:=by
       rw[ByteArray.size_extract];omega
      omega
    .cases hq
   .cases hq
  .cases hq
 case h_20 cl bz =>
  have dr:=aT.kz cU cl.args.toList;split at hq
  .rename_i fZ;split at hq
   .rename_i T v1 hTs Cj;rw[Cj] at dr;match lh:cl.args.toList.map a.eval,dr with
    | [x],dr =>
     have hx:=dr.1;have P4:cl.argTypes = #[T]:=by rw[<-b5X (xs:=cl.argTypes),hTs]
     have IV:cl.args.map a.eval = #[x]:=by rw[<-b5X (xs:=cl.args.map a.eval),b6S,lh]
     have WA:(execOp a.eval o)=(do let d <-resolve a.eval cl o.type;invoke d.target d.args):=by simp[execOp,bz]
     have TC:(execOp a.eval o).run c.P w=((Builtin.len_ #[T] o.type #[x]).run c.P w).andThen λ v w => .ok (.value v) w:=by
      rw[WA];simp[resolve,fZ,invoke,builtin,P4,IV]
     split at hq
     .rename_i t r hT;obtain⟨k1,_,_⟩:=hE.slice hT;have hel:c.P.elem T=r.2:=by simp[Program.elem,k1]
      have cI:∀ ad len cap,x = .slice ad len cap->(execOp a.eval o).run c.P w = .ok (.value (.int .i64 len)) w:=by
       intro ad len cap hxx;rw[TC,hxx,run_len_slice w T o.type ad len cap (by rw[hel];exact k1)];rfl
      have eA:∀ m:Nat,m<=140737488355328->IntKind.i64.min<=(m:Int)/\(m:Int)<=IntKind.i64.max:=λ m hm=>eM (k := .i64) ⟨by omega,by omega⟩;split at hq
      .simp only[b4L,b4P] at hq;obtain⟨rfl,rfl,rfl⟩:=hq;exact cH hI (cI _ _ _ hx) ⟨rfl,eA 0 (by omega)⟩
      .rename_i t' xs;simp only[b4L,b4P] at hq;obtain⟨rfl,rfl,rfl⟩:=hq;obtain⟨ad,cap,h2,h3,h4,h5⟩:=jT hx;exact cH hI (cI _ _ _ h2) ⟨rfl,eA _ h4⟩
      .rename_i id;split at hq
       .rename_i e' bf xs hl;simp only[b4L,b4P] at hq;obtain⟨rfl,rfl,rfl⟩:=hq;obtain⟨h2,_,_⟩:=hx;have mV:=ct _ _ hl;obtain⟨ad,cap,h3,_,h4,_⟩:=jT (t:=bf) (a5F (hI.aJ _ _ mV) mV);exact cH hI (cI _ _ _ (h2.trans h3)) ⟨rfl,eA _ h4⟩
       .cases hq
      .cases hq
     .rename_i r hT;split at hq
      .rename_i xs;simp only[b4L,b4P] at hq;obtain⟨rfl,rfl,rfl⟩:=hq;obtain⟨s,h1,h2,h3⟩:=hx;simp only[b4X,b5d] at h1;subst h2;have cK:s.data.toList.length=s.size:=b5S;have eA:bT .i64 (s.size:Int):=⟨by omega,by omega⟩;refine cH hI (x := .int .i64 s.size) ?_ ⟨by rw[cK],by rw[cK];exact eM eA⟩;rw[TC,h1,run_len_string w T o.type s (hE.str hT)];rfl
      .cases hq
     .rename_i hT;split at hq
      .cases hq
      .cases hq
     .cases hq
   .cases hq
  .rename_i fZ;split at hq
   .rename_i d T T' hd hTs;split at hq
    .rename_i τ b e Wu hT;split at hq
     .rename_i y Cj;split at hq
      .rename_i ys R6;simp only[b4L,b4P] at hq;obtain⟨rfl,rfl,rfl⟩:=hq;have Wu:=b4O Wu;subst Wu;rw[Cj] at dr;match lh:cl.args.toList.map a.eval,dr with
       | [x,z],dr =>
        obtain⟨hx,hz,_⟩:=dr;have hx:x = .slice none 0 0:=hx;subst hx;have P4:cl.argTypes = #[T,T]:=by rw[<-b5X (xs:=cl.argTypes),hTs]
        have IV:cl.args.map a.eval = #[.slice none 0 0,z]:=by rw[<-b5X (xs:=cl.args.map a.eval),b6S,lh]
        have TC:(execOp a.eval o).run c.P w=((Builtin.append_ #[T,T] o.type #[.slice none 0 0,z]).run c.P w).andThen λ v w => .ok (.value v) w:=by
         simp[execOp,bz,resolve,fZ,invoke,builtin,P4,IV]
        have hzc:C1 c G lk w y z:=by
         refine hz.Z6 ?_;cases y with
         | aH u =>
          have e:=TV.aU R6;subst e;rfl
         | nil=>rfl
         | row i=>rfl
         | av i=>rfl
         | _=>cases R6
        have ib:=a4O hI.aJ (JB ct) a2q R6 hzc;obtain⟨v',w',news,m1,m2,m3,m4,m5,m6⟩:=Tk (w:=w) (base:=w.heap.size) hE hT (World.ownsRow_nil w _ e τ.size) (Nat.le_refl _) ib (n:=0) (by rw[Nat.zero_add];exact eb) o.type;have hk:bD (λ _=>False) w w':=⟨m3.os,m3.tape,m3.output,m3.size,λ b hb _=>m3.block b hb (by simp[Value.ownBlock])⟩;simp only[Nat.zero_add,List.nil_append] at m2;refine Dm hI (x:=v') (w':=w') ?_ (hI.grow (S':=G.S) hk (λ _ _=>Iff.rfl) (λ b hb=>Nat.lt_of_lt_of_le (hI.dB b hb) hk.size)) ⟨d,hd,rfl⟩ ⟨news,?_,?_,by simpa using m6⟩ ?_
        .rw[TC,m1];rfl
        .exact⟨m2.1,m2.2.imp id λ ⟨g,cap,cur,q1,q2,q3⟩=>⟨g,cap,cur,q1,b5Y _,q3⟩⟩
        .exact dU.aR (λ _ h=>h) (λ b hb=>hI.a1a hk b (.inl hb)) _ m5
        .intro b hb;have Un:=(sP (w:=w') (v:=v') (e:=e) ⟨m2.1,m2.2.imp id λ ⟨g,cap,cur,q1,q2,q3⟩=>⟨g,cap,cur,q1,b5Y _,q3⟩⟩);have cA:v'.ownBlock=some b:=Un.trans hb;exact m2.lt b cA
      .cases hq
     .cases hq
    .cases hq
   .cases hq
  .rename_i fZ;split at hq
   .rename_i k m k' n Cj;split at hq
    .rename_i hk;have hk:=b5E hk;subst hk;simp only[b4L,b4P] at hq;obtain⟨rfl,rfl,rfl⟩:=hq;rw[Cj] at dr;match lh:cl.args.toList.map a.eval,dr with
     | [x,z],dr =>
      obtain⟨⟨hx,hx2⟩,⟨hz,hz2⟩,_⟩:=dr;simp only[b4X,b5d] at hx hz;subst hx hz;have IV:cl.args.map a.eval = #[.int k' m, .int k' n]:=by rw[<-b5X (xs:=cl.args.map a.eval),b6S,lh]
      refine cH hI (x := .int k' (max m n)) ?_ ⟨rfl,?_⟩
      .have hm:=a9L m n;simp[execOp,bz,resolve,fZ,invoke,builtin,IV,Builtin.max_,Builtin.max2];exact hm
      .exact a9M _ _ _ _ hx2 hz2
    .cases hq
   .cases hq
  .rename_i f fZ;exact Tr hE hI ct hq eb dr (λ l7=>fT bz fZ rfl l7)
  .rename_i t fZ;split at hq
   .rename_i f hf;have hx:=cU (.tmp t);rw[hf] at hx;exact Tr hE hI ct hq eb dr (λ l7=>fT bz fZ hx l7)
   .rename_i f cs hf;have hx:=cU (.tmp t);rw[hf] at hx;exact Il hE hI ct hq eb dr bz fZ hx
   .rename_i v hf;have hx:=cU (.tmp t);rw[hf] at hx;exact Il hE hI ct hq eb dr bz fZ hx
   .cases hq
  .cases hq
 case h_21 T bz =>
  cases hq
 case h_22 T x ix ok bz=>cases hq
 case h_23 fn first captured bz =>
  split at hq
  .rename_i f a9C Gc;have kj:=aT.kz cU captured.toList;have cI:(execOp a.eval o).run c.P w = .ok (.value (.func (.func f) #[] (captured.toList.map a.eval).toArray)) w:=by
    have hf:first = #[]:=by rw[<-b5X (xs:=first),a9C]
    simp[execOp,bz,Instr.makeFunc,hf];apply b8E;simp
   split at hq
   .rename_i tG;simp only[b4L,b4P] at hq;obtain⟨rfl,rfl,rfl⟩:=hq;rw[tG] at kj;match hl:captured.toList.map a.eval,kj with
    | [],_ =>
     rw[hl] at cI;exact cH hI cI rfl
   .simp only[b4L,b4P] at hq;obtain⟨rfl,rfl,rfl⟩:=hq;exact cH hI cI ⟨_,rfl,kj.imp λ u y hu hy=>hy.a2W (b5F.1 Gc u hu)⟩
  .cases hq
 case h_24=>cases hq
end
end Go.Proofs.YtmjfpcajohhbeaaGreatDoor

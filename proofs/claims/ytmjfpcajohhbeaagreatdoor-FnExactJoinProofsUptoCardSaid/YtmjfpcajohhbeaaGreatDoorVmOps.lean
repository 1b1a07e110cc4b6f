/- VmTypes, VmCore, VmRead, VmOwn, VmMap, VmInv, VmEnv, VmVals, VmRuns, VmMake, VmOps. -/
import Derived.KernelRfl
import GoSem.Claim
import Derived.Orders
import Derived.Laws.AppendOwn
import Derived.Laws.OwnMore
import Derived.Below
import Derived.MapKept
import Derived.Calls
import Derived.Laws.Cells
import Derived.Laws.Slices
import Derived.Laws.Strings
import Derived.Maps.AppendAt
import Derived.Laws.StructEq
import Derived.IntWalk
import Derived.Laws.Small
import Derived.Laws.CopyRow
import Derived.Lib.Strings
set_option linter.all false
namespace Go.Proofs.YtmjfpcajohhbeaaGreatDoor
def b4R:=@Option.bind_eq_some_iff
def b3t:=@Option.some.injEq
def b4o:=@List.map_cons
def b5q:=@List.map_nil
def b3F:=@List.cons.injEq
def b3L:=@and_true
def b6b:=@Go.World.cell?_of_block
def b4O:=@Nat.add_mul
def b3J:=@List.length_append
def b3G:=@List.length_cons
def b5l:=@List.getElem?_append_left
def b4p:=@List.getElem?_eq_some_iff
def b4y:=@Nat.lt_or_ge
def b4V:=@List.getElem?_append_right
def b5Q:=@Nat.add_sub_cancel_left
def b3A:=@Bool.and_eq_true
def b5j:=@List.drop_drop
def b5M:=@List.drop_left
def b6Y:=@List.take_append
def b3U:=@List.take_of_length_le
def b6v:=@Nat.zero_mul
def b5F:=@List.drop_zero
def b5G:=@List.take_left
def b4z:=@List.take_zero
def b3Y:=@List.nil_append
def b5b:=@Nat.zero_add
def b6G:=@List.set_cons_zero
def b4v:=@Go.run_underlying
def b5X:=@Go.MapKept.run_getObj_map
def b7c:=@List.getElem?_cons_zero
def b6n:=@List.pairwise_cons
def b4S:=@List.mem_of_getElem?
def b6P:=@Array.toList_push
def b4e:=@List.mem_singleton
def b3y:=@List.mem_append
def b6q:=@List.ext_getElem?
def b6r:=@List.getElem?_set
def b4d:=@if_pos
def b6j:=@List.getElem_of_mem
def b4Q:=@List.getElem_mem
def b4h:=@Nat.le_refl
def b5r:=@Nat.le_trans
def b3P:=@Nat.lt_of_lt_of_le
def b3S:=@List.mem_cons
def b5z:=@Iff.rfl
def b4s:=@Array.getD_eq_getD_getElem?
def b6B:=@Array.getElem?_setIfInBounds
def b4t:=@Option.map_eq_some_iff
def b3H:=@if_neg
def b5u:=@if_true
def b3x:=@Nat.eq_of_beq_eq_true
def b4l:=@of_decide_eq_true
def b5J:=@Go.Addr.add_lit
def b4c:=@Go.Sem.run_bind
def b4i:=@Go.Sem.run_pure
def b3X:=@Go.Result.andThen_ok
def b5s:=@Nat.add_zero
def b4C:=@List.eq_nil_of_length_eq_zero
def b3Z:=@List.getElem?_eq_getElem
def b6l:=@Option.some.inj
def b4r:=@List.all_eq_true
def b5m:=@List.drop_eq_getElem_cons
def b4B:=@Nat.le_of_ble_eq_true
def b3R:=@List.length_take
def b4L:=@List.length_drop
def b4W:=@List.getElem?_take
def b5h:=@List.getElem?_drop
def b6s:=@Nat.add_assoc
def b3E:=@List.mem_map
def b5O:=@Go.Value.pointer.injEq
def b5i:=@Go.Addr.mk.injEq
def b6H:=@eq_of_heq
def b6p:=@Int.eq_ofNat_of_zero_le
def b3O:=@Int.toNat_natCast
def b3w:=@Prod.mk.injEq
def b7s:=@Go.ByteArray.toList_eq
def b5w:=@Bool.eq_iff_iff
def b6Q:=@Go.eqGuard_at_string
def b4A:=@Array.length_toList
def b4J:=@Array.getElem?_eq_getElem
def b7k:=@Array.ext'
def b3C:=@Bool.false_eq_true
def b6c:=@if_false
def b6A:=@List.take_succ_cons
def b4x:=@List.append_assoc
def b3T:=@List.length_nil
def b5N:=@List.take_length
def b4N:=@List.append_nil
def b6d:=@List.replicate_succ'
def b3B:=@Bool.not_true
def b4j:=@decide_true
def b4F:=@Bool.true_and
def b6R:=@List.flatMap_cons
def b5c:=@List.mem_cons_of_mem
def b3M:=@List.length_map
def b6w:=@Option.map_none
def b5S:=@Option.map_some
def b7g:=@Go.run_sliceBound
def b4G:=@Nat.zero_le
def b6C:=@Go.heap_alloc_new
def b5v:=@Nat.mul_le_mul_right
def b7w:=@List.map_replicate
def b3v:=@decide_eq_true_eq
def b5Y:=@List.mapM_cons
def b6D:=@Nat.mul_le_mul
def b4E:=@Array.toArray_toList
def b5k:=@List.getElem?_map
def b5e:=@Go.Value.slice.injEq
def b5y:=@Array.toList_map
def a2Z:List Nat:=[0]
inductive D where
 | int (k:IntKind) (n:Int)
 | bool (b:Bool)
 | str (s:List UInt8)
 | slice (n:Nat) (xs:List D)
 | agg (xs:List D)
 | hole
 | ptr
def mvD{α:Type}(n:Nat)(f:α->D):Option (List α)->D
 | none => .hole
 | some l => .slice n (l.map f)
inductive aQ where
 | sig
 | expr
 | oExpr
 | equation
 | proofStep
 | claim
 | proof
 | reader
 | l01Reader
 deriving DecidableEq
inductive Ty where
 | int (k:IntKind)
 | bool
 | str
 | slice (t:Ty)
 | st (s:aQ)
 | mv (t:Ty)
 | ptr
 deriving DecidableEq
structure aU where
 av:Int
 bc:Int
structure J where
 aq:Int
 aN:Int
 M:List (J)
structure nX where
 aq:Int
 aN:Int
 M:Option (List (J))
structure au where
 left:J
 right:J
structure U where
 use:Int
 back:Bool
 path:List (Int)
 av:List (J)
 bd:List (J)
structure ag where
 left:J
 right:J
 aH:Int
 ref:Int
 steps:List (U)
structure aj where
 sig:aU
 af:List (ag)
structure lH where
 text:List UInt8
 pos:Int
structure fM where
 text:List UInt8
 pos:Int
 a4l:Int
 bad:Bool
@[reducible] def aQ.den:aQ->Type
 | .sig=>aU
 | .expr=>J
 | .oExpr=>nX
 | .equation=>au
 | .proofStep=>U
 | .claim=>ag
 | .proof=>aj
 | .reader=>lH
 | .l01Reader=>fM
@[reducible] def Ty.den:Ty->Type
 | .int _=>Int
 | .bool=>Bool
 | .str=>List UInt8
 | .slice t=>List t.den
 | .st s=>s.den
 | .mv t=>Option (List t.den)
 | .ptr=>Unit
structure TV where
 τ:Ty
 x:τ.den
def TV.Z9(τ:Ty)(v:TV):Option τ.den:=if h:v.τ=τ then some (h ▸ v.x) else none
def TV.aW{τ:Ty}{v:TV}{x:τ.den}(h:v.Z9 τ=some x):v=⟨τ,x⟩:=by
 unfold TV.Z9 at h;split at h
 .rename_i e;subst e;cases v;simp at h;subst h;rfl
 .cases h
@[simp] theorem TV.a2B(τ:Ty)(x:τ.den):TV.Z9 τ ⟨τ,x⟩=some x:=by simp[TV.Z9]
def aQ.fields:(s:aQ)->s.den->List TV
 | .sig,x=>[⟨.int .i64,x.av⟩,⟨.int .i64,x.bc⟩]
 | .expr,x=>[⟨.int .i64,x.aq⟩,⟨.int .i64,x.aN⟩,⟨.slice (.st .expr),x.M⟩]
 | .oExpr,x=>[⟨.int .i64,x.aq⟩,⟨.int .i64,x.aN⟩,⟨.mv (.st .expr),x.M⟩]
 | .equation,x=>[⟨.st .expr,x.left⟩,⟨.st .expr,x.right⟩]
 | .proofStep,x=>[⟨.int .i64,x.use⟩,⟨.bool,x.back⟩,⟨.slice (.int .i64),x.path⟩,⟨.slice (.st .expr),x.av⟩,⟨.slice (.st .expr),x.bd⟩]
 | .claim,x=>[⟨.st .expr,x.left⟩,⟨.st .expr,x.right⟩,⟨.int .i64,x.aH⟩,⟨.int .i64,x.ref⟩,⟨.slice (.st .proofStep),x.steps⟩]
 | .proof,x=>[⟨.st .sig,x.sig⟩,⟨.slice (.st .claim),x.af⟩]
 | .reader,x=>[⟨.str,x.text⟩,⟨.int .i64,x.pos⟩]
 | .l01Reader,x=>[⟨.str,x.text⟩,⟨.int .i64,x.pos⟩,⟨.int .i64,x.a4l⟩,⟨.bool,x.bad⟩]
def aQ.cells:(s:aQ)->s.den->List TV
 | .sig,x=>[⟨.int .i64,x.av⟩,⟨.int .i64,x.bc⟩]
 | .expr,x=>[⟨.int .i64,x.aq⟩,⟨.int .i64,x.aN⟩,⟨.slice (.st .expr),x.M⟩]
 | .oExpr,x=>[⟨.int .i64,x.aq⟩,⟨.int .i64,x.aN⟩,⟨.mv (.st .expr),x.M⟩]
 | .equation,x=>[⟨.int .i64,x.left.aq⟩,⟨.int .i64,x.left.aN⟩,⟨.slice (.st .expr),x.left.M⟩,⟨.int .i64,x.right.aq⟩,⟨.int .i64,x.right.aN⟩,⟨.slice (.st .expr),x.right.M⟩]
 | .proofStep,x=>[⟨.int .i64,x.use⟩,⟨.bool,x.back⟩,⟨.slice (.int .i64),x.path⟩,⟨.slice (.st .expr),x.av⟩,⟨.slice (.st .expr),x.bd⟩]
 | .claim,x=>[⟨.int .i64,x.left.aq⟩,⟨.int .i64,x.left.aN⟩,⟨.slice (.st .expr),x.left.M⟩,⟨.int .i64,x.right.aq⟩,⟨.int .i64,x.right.aN⟩,⟨.slice (.st .expr),x.right.M⟩,⟨.int .i64,x.aH⟩,⟨.int .i64,x.ref⟩,⟨.slice (.st .proofStep),x.steps⟩]
 | .proof,x=>[⟨.int .i64,x.sig.av⟩,⟨.int .i64,x.sig.bc⟩,⟨.slice (.st .claim),x.af⟩]
 | .reader,x=>[⟨.str,x.text⟩,⟨.int .i64,x.pos⟩]
 | .l01Reader,x=>[⟨.str,x.text⟩,⟨.int .i64,x.pos⟩,⟨.int .i64,x.a4l⟩,⟨.bool,x.bad⟩]
def aQ.size:aQ->Nat
 | .sig=>2
 | .expr=>3
 | .oExpr=>3
 | .equation=>6
 | .proofStep=>5
 | .claim=>9
 | .proof=>3
 | .reader=>2
 | .l01Reader=>4
def aQ.s7:aQ->List Ty
 | .sig=>[.int .i64, .int .i64]
 | .expr=>[.int .i64, .int .i64, .slice (.st .expr)]
 | .oExpr=>[.int .i64, .int .i64, .mv (.st .expr)]
 | .equation=>[.int .i64, .int .i64, .slice (.st .expr), .int .i64, .int .i64, .slice (.st .expr)]
 | .proofStep=>[.int .i64, .bool, .slice (.int .i64), .slice (.st .expr), .slice (.st .expr)]
 | .claim=>[.int .i64, .int .i64, .slice (.st .expr), .int .i64, .int .i64, .slice (.st .expr), .int .i64, .int .i64, .slice (.st .proofStep)]
 | .proof=>[.int .i64, .int .i64, .slice (.st .claim)]
 | .reader=>[.str, .int .i64]
 | .l01Reader=>[.str, .int .i64, .int .i64, .bool]
def aQ.fu:aQ->List Ty
 | .sig=>[.int .i64, .int .i64]
 | .expr=>[.int .i64, .int .i64, .slice (.st .expr)]
 | .oExpr=>[.int .i64, .int .i64, .mv (.st .expr)]
 | .equation=>[.st .expr, .st .expr]
 | .proofStep=>[.int .i64, .bool, .slice (.int .i64), .slice (.st .expr), .slice (.st .expr)]
 | .claim=>[.st .expr, .st .expr, .int .i64, .int .i64, .slice (.st .proofStep)]
 | .proof=>[.st .sig, .slice (.st .claim)]
 | .reader=>[.str, .int .i64]
 | .l01Reader=>[.str, .int .i64, .int .i64, .bool]
def aQ.fS:(s:aQ)->List TV->Option s.den
 | .sig,[a0,a1]=>(a0.Z9 (.int .i64)).bind λ b0=>(a1.Z9 (.int .i64)).bind λ b1=>some (aU.mk b0 b1)
 | .expr,[a0,a1,a2]=>(a0.Z9 (.int .i64)).bind λ b0=>(a1.Z9 (.int .i64)).bind λ b1=>(a2.Z9 (.slice (.st .expr))).bind λ b2=>some (J.mk b0 b1 b2)
 | .oExpr,[a0,a1,a2]=>(a0.Z9 (.int .i64)).bind λ b0=>(a1.Z9 (.int .i64)).bind λ b1=>(a2.Z9 (.mv (.st .expr))).bind λ b2=>some (nX.mk b0 b1 b2)
 | .equation,[a0,a1,a2,a3,a4,a5]=>(a0.Z9 (.int .i64)).bind λ b0=>(a1.Z9 (.int .i64)).bind λ b1=>(a2.Z9 (.slice (.st .expr))).bind λ b2=>(a3.Z9 (.int .i64)).bind λ b3=>(a4.Z9 (.int .i64)).bind λ b4=>(a5.Z9 (.slice (.st .expr))).bind λ b5=>some (au.mk (J.mk b0 b1 b2) (J.mk b3 b4 b5))
 | .proofStep,[a0,a1,a2,a3,a4]=>(a0.Z9 (.int .i64)).bind λ b0=>(a1.Z9 (.bool)).bind λ b1=>(a2.Z9 (.slice (.int .i64))).bind λ b2=>(a3.Z9 (.slice (.st .expr))).bind λ b3=>(a4.Z9 (.slice (.st .expr))).bind λ b4=>some (U.mk b0 b1 b2 b3 b4)
 | .claim,[a0,a1,a2,a3,a4,a5,a6,a7,a8]=>(a0.Z9 (.int .i64)).bind λ b0=>(a1.Z9 (.int .i64)).bind λ b1=>(a2.Z9 (.slice (.st .expr))).bind λ b2=>(a3.Z9 (.int .i64)).bind λ b3=>(a4.Z9 (.int .i64)).bind λ b4=>(a5.Z9 (.slice (.st .expr))).bind λ b5=>(a6.Z9 (.int .i64)).bind λ b6=>(a7.Z9 (.int .i64)).bind λ b7=>(a8.Z9 (.slice (.st .proofStep))).bind λ b8=>some (ag.mk (J.mk b0 b1 b2) (J.mk b3 b4 b5) b6 b7 b8)
 | .proof,[a0,a1,a2]=>(a0.Z9 (.int .i64)).bind λ b0=>(a1.Z9 (.int .i64)).bind λ b1=>(a2.Z9 (.slice (.st .claim))).bind λ b2=>some (aj.mk (aU.mk b0 b1) b2)
 | .reader,[a0,a1]=>(a0.Z9 (.str)).bind λ b0=>(a1.Z9 (.int .i64)).bind λ b1=>some (lH.mk b0 b1)
 | .l01Reader,[a0,a1,a2,a3]=>(a0.Z9 (.str)).bind λ b0=>(a1.Z9 (.int .i64)).bind λ b1=>(a2.Z9 (.int .i64)).bind λ b2=>(a3.Z9 (.bool)).bind λ b3=>some (fM.mk b0 b1 b2 b3)
 | _,_=>none
def aQ.nV:∀ {s:aQ} {l:List TV} {x:s.den},s.fS l=some x->s.cells x=l:=by
 intro s l x h;cases s;case sig =>
  match l,h with
  | [a0,a1],h =>
   simp only[aQ.fS,b4R,b3t] at h;obtain⟨b0,h0,⟨b1,h1,rfl⟩⟩:=h;have e0:=TV.aW h0;have e1:=TV.aW h1;subst e0 e1;rfl
 case expr =>
  match l,h with
  | [a0,a1,a2],h =>
   simp only[aQ.fS,b4R,b3t] at h;obtain⟨b0,h0,⟨b1,h1,⟨b2,h2,rfl⟩⟩⟩:=h;have e0:=TV.aW h0;have e1:=TV.aW h1;have e2:=TV.aW h2;subst e0 e1 e2;rfl
 case oExpr =>
  match l,h with
  | [a0,a1,a2],h =>
   simp only[aQ.fS,b4R,b3t] at h;obtain⟨b0,h0,⟨b1,h1,⟨b2,h2,rfl⟩⟩⟩:=h;have e0:=TV.aW h0;have e1:=TV.aW h1;have e2:=TV.aW h2;subst e0 e1 e2;rfl
 case equation =>
  match l,h with
  | [a0,a1,a2,a3,a4,a5],h =>
   simp only[aQ.fS,b4R,b3t] at h;obtain⟨b0,h0,⟨b1,h1,⟨b2,h2,⟨b3,h3,⟨b4,h4,⟨b5,h5,rfl⟩⟩⟩⟩⟩⟩:=h;have e0:=TV.aW h0;have e1:=TV.aW h1;have e2:=TV.aW h2;have e3:=TV.aW h3;have e4:=TV.aW h4;have e5:=TV.aW h5;subst e0 e1 e2 e3 e4 e5;rfl
 case proofStep =>
  match l,h with
  | [a0,a1,a2,a3,a4],h =>
   simp only[aQ.fS,b4R,b3t] at h;obtain⟨b0,h0,⟨b1,h1,⟨b2,h2,⟨b3,h3,⟨b4,h4,rfl⟩⟩⟩⟩⟩:=h;have e0:=TV.aW h0;have e1:=TV.aW h1;have e2:=TV.aW h2;have e3:=TV.aW h3;have e4:=TV.aW h4;subst e0 e1 e2 e3 e4;rfl
 case claim =>
  match l,h with
  | [a0,a1,a2,a3,a4,a5,a6,a7,a8],h =>
   simp only[aQ.fS,b4R,b3t] at h;obtain⟨b0,h0,⟨b1,h1,⟨b2,h2,⟨b3,h3,⟨b4,h4,⟨b5,h5,⟨b6,h6,⟨b7,h7,⟨b8,h8,rfl⟩⟩⟩⟩⟩⟩⟩⟩⟩:=h;have e0:=TV.aW h0;have e1:=TV.aW h1;have e2:=TV.aW h2;have e3:=TV.aW h3;have e4:=TV.aW h4;have e5:=TV.aW h5;have e6:=TV.aW h6;have e7:=TV.aW h7;have e8:=TV.aW h8;subst e0 e1 e2 e3 e4 e5 e6 e7 e8;rfl
 case proof =>
  match l,h with
  | [a0,a1,a2],h =>
   simp only[aQ.fS,b4R,b3t] at h;obtain⟨b0,h0,⟨b1,h1,⟨b2,h2,rfl⟩⟩⟩:=h;have e0:=TV.aW h0;have e1:=TV.aW h1;have e2:=TV.aW h2;subst e0 e1 e2;rfl
 case reader =>
  match l,h with
  | [a0,a1],h =>
   simp only[aQ.fS,b4R,b3t] at h;obtain⟨b0,h0,⟨b1,h1,rfl⟩⟩:=h;have e0:=TV.aW h0;have e1:=TV.aW h1;subst e0 e1;rfl
 case l01Reader =>
  match l,h with
  | [a0,a1,a2,a3],h =>
   simp only[aQ.fS,b4R,b3t] at h;obtain⟨b0,h0,⟨b1,h1,⟨b2,h2,⟨b3,h3,rfl⟩⟩⟩⟩:=h;have e0:=TV.aW h0;have e1:=TV.aW h1;have e2:=TV.aW h2;have e3:=TV.aW h3;subst e0 e1 e2 e3;rfl
def aQ.iS(s:aQ)(x:s.den):(s.cells x).length=s.size:=by cases s<;>rfl
def aQ.oo(s:aQ)(x:s.den):(s.cells x).map TV.τ=s.s7:=by cases s<;>rfl
def aQ.lU(s:aQ)(x:s.den):(s.fields x).map TV.τ=s.fu:=by cases s<;>rfl
def Ty.size:Ty->Nat
 | .st s=>s.size
 | _=>1
def TV.cells(v:TV):List TV :=
 match v with
 | ⟨.st s,x⟩=>s.cells x
 | v=>[v]
def aQ.BH(s:aQ)(x:s.den):s.cells x=(s.fields x).flatMap TV.cells:=by cases s<;>rfl
def aU.aP(x:aU):D := .agg [.int .i64 x.av, .int .i64 x.bc]
mutual
def J.aP:J->D
 | ⟨aq,aN,M⟩ => .agg [.int .i64 aq, .int .i64 aN, .slice 3 (J.a8d M)]
def J.a8d:List J->List D
 | []=>[]
 | e::r=>e.aP::J.a8d r
end
def J.tV:∀ l,J.a8d l=l.map J.aP
 | []=>rfl
 | _::r=>congrArg _ (J.tV r)
def nX.aP(x:nX):D := .agg [.int .i64 x.aq, .int .i64 x.aN,mvD 3 (λ y=>J.aP y) x.M]
def au.aP(x:au):D := .agg [.int .i64 x.left.aq, .int .i64 x.left.aN, .slice 3 (x.left.M.map λ y=>J.aP y), .int .i64 x.right.aq, .int .i64 x.right.aN, .slice 3 (x.right.M.map λ y=>J.aP y)]
def U.aP(x:U):D := .agg [.int .i64 x.use, .bool x.back, .slice 1 (x.path.map λ y => .int .i64 y), .slice 3 (x.av.map λ y=>J.aP y), .slice 3 (x.bd.map λ y=>J.aP y)]
def ag.aP(x:ag):D := .agg [.int .i64 x.left.aq, .int .i64 x.left.aN, .slice 3 (x.left.M.map λ y=>J.aP y), .int .i64 x.right.aq, .int .i64 x.right.aN, .slice 3 (x.right.M.map λ y=>J.aP y), .int .i64 x.aH, .int .i64 x.ref, .slice 5 (x.steps.map λ y=>U.aP y)]
def aj.aP(x:aj):D := .agg [.int .i64 x.sig.av, .int .i64 x.sig.bc, .slice 9 (x.af.map λ y=>ag.aP y)]
def lH.aP(x:lH):D := .agg [.str x.text, .int .i64 x.pos]
def fM.aP(x:fM):D := .agg [.str x.text, .int .i64 x.pos, .int .i64 x.a4l, .bool x.bad]
def aQ.aP:(s:aQ)->s.den->D
 | .sig,x=>aU.aP x
 | .expr,x=>J.aP x
 | .oExpr,x=>nX.aP x
 | .equation,x=>au.aP x
 | .proofStep,x=>U.aP x
 | .claim,x=>ag.aP x
 | .proof,x=>aj.aP x
 | .reader,x=>lH.aP x
 | .l01Reader,x=>fM.aP x
def Ty.aP:(t:Ty)->t.den->D
 | .int k,n => .int k n
 | .bool,b => .bool b
 | .str,s => .str s
 | .slice t,xs => .slice t.size (xs.map t.aP)
 | .st s,x=>s.aP x
 | .mv t,o=>mvD t.size t.aP o
 | .ptr,_ => .ptr
def TV.aP(v:TV):D:=v.τ.aP v.x
def aQ.ct(s:aQ)(x:s.den):s.aP x = .agg ((s.cells x).map TV.aP):=by
 cases s<;>first
  | rfl
  | (cases x;simp[aQ.aP,J.aP,aQ.cells,TV.aP,Ty.aP,Ty.size,aQ.size,J.tV];done)
  | (simp[aQ.aP,aQ.cells,TV.aP,Ty.aP,Ty.size,aQ.size,aU.aP,J.aP,nX.aP,au.aP,U.aP,ag.aP,aj.aP,lH.aP,fM.aP,J.tV];done)
def aQ.zero:(s:aQ)->s.den
 | .sig=>(aU.mk 0 0)
 | .expr=>(J.mk 0 0 [])
 | .oExpr=>(nX.mk 0 0 none)
 | .equation=>(au.mk (J.mk 0 0 []) (J.mk 0 0 []))
 | .proofStep=>(U.mk 0 false [] [] [])
 | .claim=>(ag.mk (J.mk 0 0 []) (J.mk 0 0 []) 0 0 [])
 | .proof=>(aj.mk (aU.mk 0 0) [])
 | .reader=>(lH.mk [] 0)
 | .l01Reader=>(fM.mk [] 0 0 false)
def Ty.zero:(t:Ty)->t.den
 | .int _=>(0:Int)
 | .bool=>false
 | .str=>([]:List UInt8)
 | .slice _=>[]
 | .st s=>s.zero
 | .mv _=>none
 | .ptr=>()
instance:Inhabited aU:=⟨aQ.zero .sig⟩
def aU.eta(x:aU):aU.mk x.av x.bc=x:=by cases x;rfl
instance:Inhabited J:=⟨aQ.zero .expr⟩
def J.eta(x:J):J.mk x.aq x.aN x.M=x:=by cases x;rfl
instance:Inhabited nX:=⟨aQ.zero .oExpr⟩
def nX.eta(x:nX):nX.mk x.aq x.aN x.M=x:=by cases x;rfl
instance:Inhabited au:=⟨aQ.zero .equation⟩
def au.eta(x:au):au.mk x.left x.right=x:=by cases x;rfl
instance:Inhabited U:=⟨aQ.zero .proofStep⟩
def U.eta(x:U):U.mk x.use x.back x.path x.av x.bd=x:=by cases x;rfl
instance:Inhabited ag:=⟨aQ.zero .claim⟩
def ag.eta(x:ag):ag.mk x.left x.right x.aH x.ref x.steps=x:=by cases x;rfl
instance:Inhabited aj:=⟨aQ.zero .proof⟩
def aj.eta(x:aj):aj.mk x.sig x.af=x:=by cases x;rfl
instance:Inhabited lH:=⟨aQ.zero .reader⟩
def lH.eta(x:lH):lH.mk x.text x.pos=x:=by cases x;rfl
instance:Inhabited fM:=⟨aQ.zero .l01Reader⟩
def fM.eta(x:fM):fM.mk x.text x.pos x.a4l x.bad=x:=by cases x;rfl
def aI(x:J):J:=J.mk x.aq x.aN x.M
def aJ(x:J):aI x=x:=by cases x;simp[aI]
def lL(x:au):au:=au.mk (aI x.left) (aI x.right)
def bm(x:au):lL x=x:=by cases x;simp[lL,aJ]
def kz(x:ag):ag:=ag.mk (aI x.left) (aI x.right) x.aH x.ref x.steps
def bH(x:ag):kz x=x:=by cases x;simp[kz,aJ]
def aQ.a2U:∀ (s:aQ) (fl:List TV),fl.map TV.τ=s.fu->∃ x,s.fields x=fl
 | .sig,fl,h=>by
  match fl,h with
  | [⟨t0,a0⟩,⟨t1,a1⟩],h =>
   simp only[b4o,b5q,aQ.fu,b3F,b3L] at h;obtain⟨rfl,rfl⟩:=h;exact⟨⟨a0,a1⟩,rfl⟩
 | .expr,fl,h=>by
  match fl,h with
  | [⟨t0,a0⟩,⟨t1,a1⟩,⟨t2,a2⟩],h =>
   simp only[b4o,b5q,aQ.fu,b3F,b3L] at h;obtain⟨rfl,rfl,rfl⟩:=h;exact⟨⟨a0,a1,a2⟩,rfl⟩
 | .oExpr,fl,h=>by
  match fl,h with
  | [⟨t0,a0⟩,⟨t1,a1⟩,⟨t2,a2⟩],h =>
   simp only[b4o,b5q,aQ.fu,b3F,b3L] at h;obtain⟨rfl,rfl,rfl⟩:=h;exact⟨⟨a0,a1,a2⟩,rfl⟩
 | .equation,fl,h=>by
  match fl,h with
  | [⟨t0,a0⟩,⟨t1,a1⟩],h =>
   simp only[b4o,b5q,aQ.fu,b3F,b3L] at h;obtain⟨rfl,rfl⟩:=h;exact⟨⟨a0,a1⟩,rfl⟩
 | .proofStep,fl,h=>by
  match fl,h with
  | [⟨t0,a0⟩,⟨t1,a1⟩,⟨t2,a2⟩,⟨t3,a3⟩,⟨t4,a4⟩],h =>
   simp only[b4o,b5q,aQ.fu,b3F,b3L] at h;obtain⟨rfl,rfl,rfl,rfl,rfl⟩:=h;exact⟨⟨a0,a1,a2,a3,a4⟩,rfl⟩
 | .claim,fl,h=>by
  match fl,h with
  | [⟨t0,a0⟩,⟨t1,a1⟩,⟨t2,a2⟩,⟨t3,a3⟩,⟨t4,a4⟩],h =>
   simp only[b4o,b5q,aQ.fu,b3F,b3L] at h;obtain⟨rfl,rfl,rfl,rfl,rfl⟩:=h;exact⟨⟨a0,a1,a2,a3,a4⟩,rfl⟩
 | .proof,fl,h=>by
  match fl,h with
  | [⟨t0,a0⟩,⟨t1,a1⟩],h =>
   simp only[b4o,b5q,aQ.fu,b3F,b3L] at h;obtain⟨rfl,rfl⟩:=h;exact⟨⟨a0,a1⟩,rfl⟩
 | .reader,fl,h=>by
  match fl,h with
  | [⟨t0,a0⟩,⟨t1,a1⟩],h =>
   simp only[b4o,b5q,aQ.fu,b3F,b3L] at h;obtain⟨rfl,rfl⟩:=h;exact⟨⟨a0,a1⟩,rfl⟩
 | .l01Reader,fl,h=>by
  match fl,h with
  | [⟨t0,a0⟩,⟨t1,a1⟩,⟨t2,a2⟩,⟨t3,a3⟩],h =>
   simp only[b4o,b5q,aQ.fu,b3F,b3L] at h;obtain⟨rfl,rfl,rfl,rfl⟩:=h;exact⟨⟨a0,a1,a2,a3⟩,rfl⟩
abbrev zE:J:=J.mk (0:Int) (0:Int) []
def ae:True:=trivial
noncomputable section
@[reducible] def FN:List Ty->Ty->Type
 | [],r=>Prop×r.den
 | t::ts,r=>t.den->FN ts r
structure FV where
 ps:List Ty
 r:Ty
 F:FN ps r
def FV.Z9(ps:List Ty)(r:Ty)(v:FV):Option (FN ps r):=if h:v.ps=ps then (if k:v.r=r then some (h ▸ k ▸ v.F) else none) else none
def FV.aW{ps:List Ty}{r:Ty}{v:FV}{F:FN ps r}(h:v.Z9 ps r=some F):v=⟨ps,r,F⟩:=by
 unfold FV.Z9 at h;split at h
 .split at h
  .rename_i e k;obtain⟨ps',r',F'⟩:=v;simp only at e k;subst e k;simp at h;subst h;rfl
  .cases h
 .cases h
@[simp] theorem FV.a2B(ps:List Ty)(r:Ty)(F:FN ps r):FV.Z9 ps r ⟨ps,r,F⟩=some F:=by simp[FV.Z9]
structure MV where
 κ:Ty
 ε:Ty
 f:κ.den->Option ε.den
 n:Nat
def MV.Z9(κ ε:Ty)(m:MV):Option ((κ.den->Option ε.den)×Nat):=if h:m.κ=κ then (if k:m.ε=ε then some (h ▸ k ▸ (m.f,m.n)) else none) else none
def MV.aW{κ ε:Ty}{m:MV}{F:(κ.den->Option ε.den)×Nat}(h:m.Z9 κ ε=some F):m=⟨κ,ε,F.1,F.2⟩:=by
 unfold MV.Z9 at h;split at h
 .split at h
  .rename_i e k;obtain⟨κ',ε',f',n'⟩:=m;simp only at e k;subst e k;simp at h;subst h;rfl
  .cases h
 .cases h
@[simp] theorem MV.a2B(κ ε:Ty)(f:κ.den->Option ε.den)(n:Nat):MV.Z9 κ ε ⟨κ,ε,f,n⟩=some (f,n):=by simp[MV.Z9]
def LJ{α β:Type}(f:α->Option β)(k:α)(v:β):α->Option β:=λ x => @ite _ (x=k) (Classical.propDecidable _) (some v) (f x)
def S5{β:Type}(o:Option β)(n:Nat):Nat:=bif o.isSome then n else n+1
inductive AV where
 | any
 | ei
 | aF (v:TV)
 | nil
 | cZ (v:TV)
 | ptr (id off:Nat)
 | row (id:Nat)
 | eG (id i off:Nat)
 | agg (cs:List AV)
 | iP (vs:List AV)
 | fn (f:FuncId)
 | aw (id:Nat)
 | sub (id i off sz:Nat)
 | eP (id i off sz:Nat)
 | c9 (f:FuncId) (cs:List AV)
 | iC (v:FV)
 | mp (id:Nat)
inductive aA where
 | box (cs:List AV)
 | row (e:TypeId) (τ:Ty) (xs:List τ.den)
 | aw (τ:Ty) (xs:List τ.den)
 | map (m:MV)
structure ai where
 aC:List AV
 aK:List (Nat×aA)
inductive Arg where
 | val (v:TV)
 | ref (v:TV)
 | fn (f:FuncId)
 | c9 (v:FV)
 | own (v:TV)
 | box (k:Nat)
inductive CK where
 | d (τ:Ty)
 | o (τ:Ty)
 | p (k:Nat)
structure SK where
 ps:List (Option Nat)
 sh:List (List CK)
def ah{α:Type}:List (Nat×α)->Nat->Option α
 | [],_=>none
 | (k,v)::r,n=>match Nat.beq k n with
  | true=>some v
  | false=>ah r n
abbrev Vc:=Option Prop
def Vc.ok:Vc->Prop
 | .none=>True
 | .some p=>p
def Vc.and(v:Vc)(K:Prop):Prop:=match v with
 | .none=>K
 | .some p=>p/\K
def Vc.jR{v:Vc}{K:Prop}(h:v.and K):v.ok/\K:=by
 cases v with
 | none=>exact⟨ae,h⟩
 | some p=>exact h
structure Cp where
 τ:Ty
 g:τ.den->Int->Vc×τ.den×Int
structure qL where
 ps:List Ty
 r:Ty
 eO:List (Bool×Ty)
def Arg.NW:Arg->Bool
 | .ref _ | .c9 _ | .box _=>false
 | _=>true
inductive a0L where
 | box (cells:List TV)
 | row (e:TypeId) (τ:Ty) (xs:List τ.den)
 | res (l:List (Bool×TV))
structure Env where
 ty:List (Nat×Ty×Nat×Nat)
 pty:List (Nat×Ty)
 Q7:Nat->List Arg->Option (Vc×List TV)
 wr:List Nat:=[]
 own:List Nat:=[]
 Qh:Nat->List Arg->Option (Vc×List TV):=λ _ _=>none
 mark:Nat->Option Cp:=λ _=>none
 c9:Nat->Option qL:=λ _=>none
 ro:List Nat:=[]
 tk:Nat->List Bool:=λ _=>[]
 sk:Nat->Option SK:=λ _=>none
 Zu:Nat->List Arg->List (List TV)->Option (Vc×List TV×List (List TV)):=λ _ _ _=>none
 mty:List (Nat×Ty×Ty):=[]
 WX:Nat->List Arg->Option (Vc×a0L):=λ _ _=>none
 cmp:List Nat:=[]
def ai.ah(s:ai)(id:Nat):Option aA:=YtmjfpcajohhbeaaGreatDoor.ah s.aK id
def Vu(k:IntKind)(n:Int):Bool :=
 match n with
 | .ofNat m=>match k with
  | .i64=>Nat.ble m 9223372036854775807
  | .u64=>Nat.ble m 18446744073709551615
  | .u8=>Nat.ble m 255
  | _=>Nat.ble m 127
 | .negSucc m=>match k with
  | .i64=>Nat.ble m 9223372036854775807
  | _=>false
def OQ:Value->AV
 | .int k n=>match Vu k n with
  | true => .aF ⟨.int k,n⟩
  | false => .any
 | .bool b => .aF ⟨.bool,b⟩
 | .string s=>match Nat.ble s.data.size 1000000 with
  | true => .aF ⟨.str,s.data.toList⟩
  | false => .any
 | .slice none 0 0 => .nil
 | _ => .any
def a1f:Value->AV
 | .agg cs => .agg (cs.toList.map OQ)
 | .tuple cs=>match Nat.beq cs.size 0 with
  | true => .ei
  | false => .any
 | v=>OQ v
def ai.eval(s:ai):Operand->AV
 | .tmp t=>s.aC.getD t .any
 | .const v=>a1f v
 | .func f => .fn f
 | .global _ => .any
def jH(lk:Nat->Option aA)(τ:Ty):AV->Option τ.den
 | .aF v=>v.Z9 τ
 | .nil=>match τ with
  | .slice _=>some []
  | _=>none
 | .row id=>match lk id with
  | some (.row _ bf xs)=>TV.Z9 τ ⟨.slice bf,xs⟩
  | _=>none
 | .aw id=>match lk id with
  | some (.aw bf xs)=>TV.Z9 τ ⟨.slice bf,xs⟩
  | _=>none
 | _=>none
def Qg(lk:Nat->Option aA)(id:Nat):Option aA:=match lk id with
 | some (.aw _ _)=>none
 | o=>o
def U8(lk:Nat->Option aA):List AV->List Ty->Option (List TV)
 | [],[]=>some []
 | c::cs,t::ts=>match jH lk t c with
  | some x=>match U8 lk cs ts with
   | some r=>some (⟨t,x⟩::r)
   | none=>none
  | none=>none
 | _,_=>none
def zI(lk:Nat->Option aA)(τ:Ty):AV->Option τ.den
 | .agg cs=>match τ with
  | .st s=>match U8 lk cs s.s7 with
   | some l=>s.fS l
   | none=>none
  | _=>none
 | v=>jH lk τ v
def AV.cell:AV->Bool
 | .any | .ei | .agg _ | .iP _ | .eP .. | .c9 .. | .iC .. => false
 | .aF v=>match v.τ with
  | .st _=>false
  | _=>true
 | _=>true
def cellsOf(τ:Ty)(v:AV):Option (List AV) :=
 match τ with
 | .st s=>match v with
  | .aF x=>match x.Z9 (.st s) with
   | some y=>some ((s.cells y).map .aF)
   | none=>none
  | .agg cs=>match Nat.beq cs.length s.size&&cs.all AV.cell with
   | true=>some cs
   | false=>none
  | _=>none
 | _=>match v.cell with
  | true=>some [v]
  | false=>none
def JU(cs:List AV)(off:Nat)(τ:Ty):Option AV :=
 match τ with
 | .st s=>match Nat.ble (off+s.size) cs.length with
  | true=>some (.agg ((cs.drop off).take s.size))
  | false=>none
 | _=>cs[off]?
def putCells(cs:List AV)(off:Nat)(new:List AV):Option (List AV) :=
 match Nat.ble (off+new.length) cs.length with
 | true=>some (cs.take off++(new++cs.drop (off+new.length)))
 | false=>none
def TV.part(v:TV)(off:Nat)(τ:Ty):Option TV :=
 match Nat.beq off 0&&decide (v.τ=τ) with
 | true=>some v
 | false=>match v.cells[off]? with
  | some u=>match decide (u.τ=τ) with
   | true=>some u
   | false=>none
  | none=>none
def sN(lk:Nat->Option aA)(τ:Ty):AV->Option AV
 | .cZ v=>match decide (v.τ=τ) with
  | true=>some (.aF v)
  | false=>none
 | .ptr id off=>match lk id with
  | some (.box cs)=>JU cs off τ
  | _=>none
 | .eG id i off=>match lk id with
  | some (.row _ bf xs)=>match TV.part ⟨bf,xs.getD i bf.zero⟩ off τ with
   | some u=>some (.aF u)
   | none=>none
  | _=>none
 | _=>none
def deref(lk:Nat->Option aA)(τ:Ty)(v:AV):Option τ.den :=
 match sN lk τ v with
 | some u=>zI lk τ u
 | none=>none
def aQ.eW(s:aQ)(i:Nat):Nat:=((s.fu.take i).map Ty.size).sum
def zeroCell(τ:Ty):AV :=
 match τ with
 | .slice _ => .nil
 | τ => .aF ⟨τ,τ.zero⟩
def zeroCells(τ:Ty):List AV :=
 match τ with
 | .st s=>s.s7.map zeroCell
 | τ=>[zeroCell τ]
def pN(lk:Nat->Option aA):List (Bool×Ty)->List AV->Option (List Arg)
 | [],[]=>some []
 | (true,τ)::ks,v::vs=>match deref lk τ v with
  | some x=>match pN lk ks vs with
   | some r=>some (.ref ⟨τ,x⟩::r)
   | none=>none
  | none=>none
 | (false,τ)::ks,v::vs=>match zI lk τ v with
  | some x=>match pN lk ks vs with
   | some r=>some (.val ⟨τ,x⟩::r)
   | none=>none
  | none=>none
 | _,_=>none
def Vn(E:Env)(f:FuncId)(eO:List Arg):(ps:List Ty)->(r:Ty)->List Arg->FN ps r
 | [],r,acc=>match E.Q7 f (acc++eO) with
  | some (pre,[v])=>match v.Z9 r with
   | some y=>(pre.ok,y)
   | none=>(False,r.zero)
  | _=>(False,r.zero)
 | t::ts,r,acc=>λ x=>Vn E f eO ts r (acc++[.val ⟨t,x⟩])
def ub:(ps:List Ty)->(r:Ty)->FN ps r->List Arg->Option (Prop×r.den)
 | [],_,F,[]=>some F
 | t::ts,r,F, .val a::zs=>match a.Z9 t with
  | some x=>ub ts r (F x) zs
  | none=>none
 | _,_,_,_=>none
def EJ(E:Env)(lk:Nat->Option aA):AV->Option FV
 | .c9 f cs=>match E.c9 f with
  | some k=>match pN lk k.eO cs with
   | some Z9=>some ⟨k.ps,k.r,Vn E f Z9 k.ps k.r []⟩
   | none=>none
  | none=>none
 | .iC v=>some v
 | .fn f=>match E.c9 f with
  | some k=>match k.eO with
   | []=>some ⟨k.ps,k.r,Vn E f [] k.ps k.r []⟩
   | _=>none
  | none=>none
 | _=>none
def U6(E:Env)(lk:Nat->Option aA)(T:TypeId)(v:AV):Option Arg :=
 match ah E.ty T with
 | some (τ,_)=>match zI lk τ v with
  | some x=>some (.val ⟨τ,x⟩)
  | none=>none
 | none=>match ah E.pty T with
  | some τ=>match deref lk τ v with
   | some x=>some (.ref ⟨τ,x⟩)
   | none=>none
  | none=>match EJ E lk v with
   | some q=>some (.c9 q)
   | none=>match v with
    | .fn f=>some (.fn f)
    | _=>none
def mq(E:Env)(lk:Nat->Option aA):List TypeId->List AV->Option (List Arg)
 | [],[]=>some []
 | T::Ts,v::vs=>match U6 E lk T v with
  | some x=>match mq E lk Ts vs with
   | some r=>some (x::r)
   | none=>none
  | none=>none
 | _,_=>none
def Fu:List TV->AV
 | [v] => .aF v
 | vs => .iP (vs.map .aF)
def O(n:Int):Prop := -9223372036854775808<=n/\n<=9223372036854775807
def bS(k:IntKind)(n:Int):Prop :=
 match k with
 | .i64=>O n
 | k=>k.min<=n/\n<=k.max
def ak(n:Int)(len:Nat):Prop:=0<=n/\n<(len:Int)
def cB(l h:Int)(len:Nat):Prop:=0<=l/\l<=h/\h<=(len:Int)
def bJ(n m:Int)(b:Nat):Prop:=0<=n/\n<=m/\m * ((b:Int)+1)<=140737488355328
def aY(n b:Nat):Prop:=n * (b+1)<=140737488355328
def arith(op:BinOp)(k:IntKind)(a b:Int):Option (Vc×Int) :=
 match op with
 | .add=>match k with
  | .u64=>some (.none,IntKind.u64.wrap (a+b))
  | k=>some (.some (bS k (a+b)),a+b)
 | .sub=>some (.some (bS k (a - b)),a - b)
 | .mul=>match k with
  | .u64=>some (.none,IntKind.u64.wrap (a * b))
  | k=>some (.some (bS k (a * b)),a * b)
 | .quo=>some (.some (b≠0/\bS k (a.tdiv b)),a.tdiv b)
 | .rem=>some (.some (b≠0/\bS k (a.tmod b)),a.tmod b)
 | .shl=>some (.some (0<=b/\b<k.bits/\bS k (a * 2 ^ b.toNat)),a * 2 ^ b.toNat)
 | .shr=>some (.some (0<=b/\b<k.bits/\bS k (a.fdiv (2 ^ b.toNat))),a.fdiv (2 ^ b.toNat))
 | .and=>some (.some (0<=a/\0<=b/\bS k a/\bS k b),((a.toNat &&& b.toNat:Nat):Int))
 | _=>none
def cmp(op:BinOp)(a b:Int):Option Bool :=
 match op with
 | .eql=>some (decide (a=b))
 | .neq=>some (!decide (a=b))
 | .lss=>some (decide (a<b))
 | .leq=>some (decide (a<=b))
 | .gtr=>some (decide (b<a))
 | .geq=>some (decide (b<=a))
 | _=>none
def ZL(wr:Bool)(op:BinOp)(k:IntKind)(a b:Int):Option (Vc×Int) :=
 match wr with
 | true=>match op with
  | .add=>some (.none,k.wrap (a+b))
  | .sub=>some (.none,k.wrap (a - b))
  | .mul=>some (.none,k.wrap (a * b))
  | op=>arith op k a b
 | false=>arith op k a b
def a2I(tb wr:Bool)(op:BinOp)(u v:AV):Option (Vc×AV) :=
 match u,v with
 | .aF ⟨.int k,a⟩, .aF ⟨.int k',b⟩=>match ZL wr op k a b with
  | some (p,r)=>match op with
   | .shl | .shr=>some (p, .aF ⟨.int k,r⟩)
   | _=>match decide (k=k') with
    | true=>some (p, .aF ⟨.int k,r⟩)
    | false=>none
  | none=>match decide (k=k') with
   | true=>match cmp op a b with
    | some c=>some (.none, .aF ⟨.bool,c⟩)
    | none=>none
   | false=>none
 | .aF ⟨.bool,a⟩, .aF ⟨.bool,b⟩=>match tb with
  | true=>match op with
   | .eql=>some (.none, .aF ⟨.bool,a == b⟩)
   | .neq=>some (.none, .aF ⟨.bool,!(a == b)⟩)
   | _=>none
  | false=>none
 | .aF ⟨.str,a⟩, .aF ⟨.str,b⟩=>match op with
  | .eql=>some (.none, .aF ⟨.bool,decide (a=b)⟩)
  | .neq=>some (.none, .aF ⟨.bool,!decide (a=b)⟩)
  | .add=>some (.some (a.length+b.length<=140737488355328), .aF ⟨.str,a++b⟩)
  | _=>none
 | _,_=>none
def partsOf(E:Env)(s:aQ)(cs:List AV):List (Nat×AV)->Option (List AV)
 | []=>some cs
 | (i,v)::r=>match s.fu[i]? with
  | some τ=>match cellsOf τ v with
   | some new=>match putCells cs (s.eW i) new with
    | some dB=>partsOf E s dB r
    | none=>none
   | none=>none
  | none=>none
def tc(τ:Ty):Nat->List (Nat×AV)->Option (List τ.den)
 | _,[]=>some []
 | n,(
    i,v)::r=>match Nat.beq i n with
  | true=>match zI (λ _=>none) τ v with
   | some x=>match tc τ (n+1) r with
    | some xs=>some (x::xs)
    | none=>none
   | none=>none
  | false=>none
def TV.flat(v:TV):Bool:=v.cells.all λ u=>match u.τ with
 | .slice _=>false
 | .mv _=>false
 | _=>true
def pM(d:Int):Option AV->Option Int
 | none=>some d
 | some (.aF ⟨.int _,n⟩)=>some n
 | _=>none
def sP(lk:Nat->Option aA)(id:Nat):Option aA:=match lk id with
 | some (.box cs)=>some (.box cs)
 | _=>none
def JO(E:Env)(lk:Nat->Option aA)(f:FuncId)(Ts:List TypeId)(vs:List AV):Option (Vc×AV×Option aA) :=
 match mq E (sP lk) Ts vs with
 | some Z9=>match E.Q7 f Z9 with
  | some (pre,res)=>some (pre,Fu res,none)
  | none=>none
 | none=>match mq E lk Ts vs with
  | some Z9=>match E.Q7 f Z9 with
   | some (pre,res)=>match res.all TV.flat with
    | true=>some (pre,Fu res,none)
    | false=>none
   | none=>none
  | none=>none
def CY(E:Env)(lk:Nat->Option aA)(g:AV)(Ts:List TypeId)(vs:List AV):Option (Vc×AV×Option aA) :=
 match (match mq E (sP lk) Ts vs with
  | some Z9=>match EJ E (sP lk) g with
   | some q=>match ub q.ps q.r q.F Z9 with
    | some (pre,y)=>some (some pre,Fu [⟨q.r,y⟩],none)
    | none=>none
   | none=>none
  | none=>none) with
 | some r=>some r
 | none=>match mq E lk Ts vs with
  | some Z9=>match EJ E lk g with
   | some q=>match ub q.ps q.r q.F Z9 with
    | some (pre,y)=>match TV.flat ⟨q.r,y⟩ with
     | true=>some (some pre,Fu [⟨q.r,y⟩],none)
     | false=>none
    | none=>none
   | none=>none
  | none=>none
def AV.a6B:AV->Bool
 | .ei | .iP _ | .c9 .. | .iC .. | .sub .. | .eP .. => false
 | _=>true
def Vx:List TV->List TV->Option Bool
 | [],[]=>some true
 | ⟨.int .i64,a⟩::r,⟨.int .i64,b⟩::q=>match Vx r q with
  | some t=>some (decide (a=b)&&t)
  | none=>none
 | _,_=>none
def a3S(E:Env)(op:BinOp)(T:TypeId)(u v:AV):Option (Vc×AV) :=
 match ah E.ty T,u,v with
 | some (.st s,_), .aF x, .aF y=>match E.cmp.contains T,x.Z9 (.st s),y.Z9 (.st s) with
  | true,some a,some b=>match Vx (s.fields a) (s.fields b) with
   | some e=>match op with
    | .eql=>some (.none, .aF ⟨.bool,e⟩)
    | .neq=>some (.none, .aF ⟨.bool,!e⟩)
    | _=>none
   | none=>none
  | _,_,_=>none
 | _,_,_=>none
def a0v(E:Env)(op:BinOp)(T:TypeId)(u v:AV):Option (Vc×AV) :=
 match ah E.ty T,u,v with
 | some (.slice _,_), .aF ⟨.slice _,xs⟩, .nil=>match op with
  | .eql=>some (.some (1<=xs.length), .aF ⟨.bool,false⟩)
  | .neq=>some (.some (1<=xs.length), .aF ⟨.bool,true⟩)
  | _=>none
 | _,_,_=>a3S E op T u v
def NN(E:Env)(lk:Nat->Option aA)(ev:Operand->AV)(o:Oper):Option (Vc×AV×Option aA) :=
 match o.op with
 | .move x=>some (.none,ev x,none)
 | .assign x=>some (.none,ev x,none)
 | .pick c a b=>match ev c with
  | .aF ⟨.bool,true⟩=>some (.none,ev a,none)
  | .aF ⟨.bool,false⟩=>some (.none,ev b,none)
  | _=>none
 | .alloc T=>match o.dst,ah E.ty T with
  | some d,some (τ,_)=>some (.none, .ptr d 0,some (.box (zeroCells τ)))
  | _,_=>none
 | .box T x=>match o.dst,ah E.ty T with
  | some d,some (τ,_)=>match E.ro.contains d with
   | true=>match zI (λ _=>none) τ (ev x) with
    | some y=>some (.none, .cZ ⟨τ,y⟩,none)
    | none=>none
   | false=>match cellsOf τ (ev x) with
    | some cs=>some (.none, .ptr d 0,some (.box cs))
    | none=>none
  | _,_=>none
 | .build T parts=>match ah E.ty T with
  | some (.st n,_)=>match partsOf E n (zeroCells (.st n)) (parts.toList.map λ p=>(p.1,ev p.2)) with
   | some cs=>some (.none, .agg cs,none)
   | none=>none
  | _=>none
 | .buildSlice T len parts=>match o.dst,ah E.ty T with
  | some d,some (.slice τ,_,e)=>match Nat.beq parts.size len&&Nat.ble len 1000 with
   | true=>match tc τ 0 (parts.toList.map λ p=>(p.1,ev p.2)) with
    | some xs=>match E.ro.contains d with
     | true=>some (.none, .aF ⟨.slice τ,xs⟩,none)
     | false=>some (.none, .row d,some (.row e τ xs))
    | none=>none
   | false=>none
  | _,_=>none
 | .load T a=>match ah E.ty T with
  | some (τ,_)=>match sN lk τ (ev a) with
   | some v=>some (.none,v,none)
   | none=>none
  | none=>none
 | .nilCheck x=>match ev x with
  | .cZ v=>some (.none, .cZ v,none)
  | .ptr id off=>some (.none, .ptr id off,none)
  | .eG id i off=>some (.none, .eG id i off,none)
  | _=>none
 | .fieldAddr T x i=>match ah E.ty T with
  | some (.st n,_)=>match ev x with
   | .cZ v=>match v.Z9 (.st n) with
    | some y=>match (n.fields y)[i]? with
     | some f=>some (.none, .cZ f,none)
     | none=>none
    | none=>none
   | .ptr id off=>match Nat.blt i n.fu.length with
    | true=>some (.none, .ptr id (off+n.eW i),none)
    | false=>none
   | .eG id k off=>match Nat.blt i n.fu.length with
    | true=>some (.none, .eG id k (off+n.eW i),none)
    | false=>none
   | _=>none
  | _=>none
 | .field T x i=>match ah E.ty T with
  | some (.st n,_)=>match ev x with
   | .aF v=>match v.Z9 (.st n) with
    | some y=>match (n.fields y)[i]? with
     | some f=>some (.none, .aF f,none)
     | none=>none
    | none=>none
   | .agg cs=>match n.fu[i]? with
    | some τ=>match JU cs (n.eW i) τ with
     | some v=>some (.none,v,none)
     | none=>none
    | none=>none
   | _=>none
  | _=>none
 | .indexAddr T x ix=>match ah E.ty T with
  | some (
      .slice τ,_)=>match ev ix with
   | .aF ⟨.int _,n⟩=>match ev x with
    | .aF v=>match v.Z9 (.slice τ) with
     | some xs=>some (.some (ak n xs.length), .cZ ⟨τ,xs.getD n.toNat τ.zero⟩,none)
     | none=>none
    | .row id=>match lk id with
     | some (.row _ bf xs)=>match decide (bf=τ) with
      | true=>some (.some (ak n xs.length), .eG id n.toNat 0,none)
      | false=>none
     | _=>none
    | _=>none
   | _=>none
  | _=>none
 | .index T x ix=>match ah E.ty T with
  | some (.str,_)=>match ev ix with
   | .aF ⟨.int _,n⟩=>match ev x with
    | .aF ⟨.str,xs⟩=>some (.some (ak n xs.length), .aF ⟨.int .u8,((xs.getD n.toNat 0).toNat:Int)⟩,none)
    | _=>none
   | _=>none
  | _=>none
 | .binOp op T x y _=>match a0v E op T (ev x) (ev y) with
  | some (p,v)=>some (p,v,none)
  | none=>match a2I (match ah E.ty T with
   | some (.bool,_)=>true
   | _=>false) (match o.dst with
   | some d=>E.wr.contains d
   | none=>false) op (ev x) (ev y) with
   | some (p,v)=>some (p,v,none)
   | none=>none
 | .unOp op _ x=>match op,ev x with
  | .not, .aF ⟨.bool,b⟩=>some (.none, .aF ⟨.bool,!b⟩,none)
  | .neg, .aF ⟨.int k,n⟩=>some (.some (bS k (-n)), .aF ⟨.int k,-n⟩,none)
  | _,_=>none
 | .convert src dst x=>match ah E.ty src,ah E.ty dst with
  | some (.int _,_),some (.int k,_)=>match ev x with
   | .aF ⟨.int _,n⟩=>some (.some (bS k n), .aF ⟨.int k,n⟩,none)
   | _=>none
  | _,_=>none
 | .slice T x lo hi mx=>match ah E.ty T,mx with
  | some (.slice τ,_),none=>match ev x with
   | .aF v=>match v.Z9 (.slice τ) with
    | some xs=>match pM 0 (lo.map ev),pM (xs.length:Int) (hi.map ev) with
     | some l,some h=>some (.some (cB l h xs.length), .aF ⟨.slice τ,(xs.take h.toNat).drop l.toNat⟩,none)
     | _,_=>none
    | none=>none
   | _=>none
  | some (.str,_),none=>match ev x with
   | .aF ⟨.str,xs⟩=>match pM 0 (lo.map ev),pM (xs.length:Int) (hi.map ev) with
    | some l,some h=>some (.some (cB l h xs.length), .aF ⟨.str,(xs.take h.toNat).drop l.toNat⟩,none)
    | _,_=>none
   | _=>none
  | _,_=>none
 | .extract t i=>match ev t with
  | .iP vs=>match vs[i]? with
   | some v=>some (.none,v,none)
   | none=>none
  | _=>none
 | .makeSlice T l c=>match o.dst,ah E.ty T with
  | some d,some (.slice τ,b,e)=>match ev l,ev c with
   | .aF ⟨.int .i64,n⟩, .aF ⟨.int .i64,m⟩=>some (.some (bJ n m b), .row d,some (.row e τ (List.replicate n.toNat τ.zero)))
   | _,_=>none
  | _,_=>none
 | .call c=>match c.callee with
  | .builtin .len=>match c.argTypes.toList,c.args.toList.map ev with
   | [T],[v]=>match ah E.ty T with
    | some (.slice _,_)=>match v with
     | .nil=>some (.none, .aF ⟨.int .i64,(0:Int)⟩,none)
     | .aF ⟨.slice _,xs⟩=>some (.none, .aF ⟨.int .i64,(xs.length:Int)⟩,none)
     | .row id=>match lk id with
      | some (.row _ _ xs)=>some (.none, .aF ⟨.int .i64,(xs.length:Int)⟩,none)
      | _=>none
     | _=>none
    | some (.str,_)=>match v with
     | .aF ⟨.str,xs⟩=>some (.none, .aF ⟨.int .i64,(xs.length:Int)⟩,none)
     | _=>none
    | none=>match v,ah E.mty T with
     | .mp _,some _=>none
     | _,_=>none
    | _=>none
   | _,_=>none
  | .builtin .append=>match o.dst,c.argTypes.toList with
   | some d,[T,T']=>match Nat.beq T T',ah E.ty T with
    | true,some (.slice τ,b,e)=>match c.args.toList.map ev with
     | [.nil,y]=>match jH (Qg lk) (.slice τ) y with
      | some ys=>some (.some (aY ys.length b), .row d,some (.row e τ ys))
      | none=>none
     | _=>none
    | _,_=>none
   | _,_=>none
  | .builtin .max=>match c.args.toList.map ev with
   | [.aF ⟨.int k,m⟩, .aF ⟨.int k',n⟩]=>match decide (k'=k) with
    | true=>some (.none, .aF ⟨.int k,(max m n:Int)⟩,none)
    | false=>none
   | _=>none
  | .value (.func f)=>JO E lk f c.argTypes.toList (c.args.toList.map ev)
  | .value (.tmp t)=>match ev (.tmp t) with
   | .fn f=>JO E lk f c.argTypes.toList (c.args.toList.map ev)
   | .c9 f cs=>CY E lk (.c9 f cs) c.argTypes.toList (c.args.toList.map ev)
   | .iC v=>CY E lk (.iC v) c.argTypes.toList (c.args.toList.map ev)
   | _=>none
  | _=>none
 | .makeMap _ none=>none
 | .lookup _ _ _ _=>none
 | .makeFunc fn first captured=>match fn,first.toList,(captured.toList.map ev).all AV.a6B with
  | .func f,[],true=>match captured.toList.map ev with
   | []=>some (.none, .fn f,none)
   | cs=>some (.none, .c9 f cs,none)
  | _,_,_=>none
 | _=>none
mutual
def AV.refs(id:Nat):AV->Bool
 | .ptr i _=>Nat.beq i id
 | .row i=>Nat.beq i id
 | .eG i _ _=>Nat.beq i id
 | .aw i=>Nat.beq i id
 | .sub i _ _ _=>Nat.beq i id
 | .eP i _ _ _=>Nat.beq i id
 | .mp i=>Nat.beq i id
 | .agg cs=>AV.gh id cs
 | .iP cs=>AV.gh id cs
 | .c9 _ cs=>AV.gh id cs
 | _=>false
def AV.gh(id:Nat):List AV->Bool
 | []=>false
 | v::r=>match AV.refs id v with
  | true=>true
  | false=>AV.gh id r
end
def AV.kill(id:Nat)(v:AV):AV:=match v.refs id with
 | true => .any
 | false=>v
def aA.kill(id:Nat):aA->aA
 | .box cs => .box (cs.map (AV.kill id))
 | o=>o
def ai.cp(s:ai)(id:Nat):ai :=
 { aC:=s.aC.map (AV.kill id),aK:=s.aK.map λ p=>(p.1,p.2.kill id) }
def bR(id:Nat):List (Nat×aA)->List (Nat×aA)
 | []=>[]
 | (k,o)::r=>match Nat.beq k id with
  | true=>bR id r
  | false=>(k,o)::bR id r
def ai.put(s:ai)(d:Option Nat)(v:AV):ai :=
 match d with
 | some d=>{ s with aC:=s.aC.set d v }
 | none=>s
def ai.lay(s:ai)(d:Option Nat)(v:AV)(o:Option aA):ai :=
 match o,d with
 | some o,some d =>
  let s':=s.cp d;{ aC:=s'.aC.set d v,aK:=(d,o.kill d)::bR d s'.aK }
 | _,d=>s.put d v
mutual
def AV.rows:AV->List Nat
 | .row i=>[i]
 | .agg cs=>AV.a3M cs
 | _=>[]
def AV.a3M:List AV->List Nat
 | []=>[]
 | v::r=>AV.rows v++AV.a3M r
end
def Yy(s:ai)(v:AV):List Nat :=
 match v with
 | .ptr id _=>match s.ah id with
  | some (.box cs)=>AV.a3M cs
  | _=>[]
 | v=>v.rows
def a6q(s:ai)(v:AV):List Nat :=
 match v with
 | .c9 _ cs=>cs.flatMap (Yy s)
 | v=>Yy s v
def kN(E:Env)(s:ai)(o:Oper):List Nat :=
 match (match o.dst with
  | some d=>E.own.contains d
  | none=>false) with
 | true=>[]
 | false=>match o.op with
 | .buildSlice _ _ parts=>parts.toList.flatMap λ p=>(s.eval p.2).rows
 | .slice _ x _ _ _=>(s.eval x).rows
 | .store _ a x=>match s.eval a with
  | .eG _ _ _=>(s.eval x).rows
  | _=>[]
 | .call c=>match c.callee with
  | .value _=>match E.Q7 (match c.callee with
    | .value (.func f)=>f
    | .value (.tmp t)=>match s.eval (.tmp t) with
     | .fn f=>f
     | _=>0
    | _=>0) (match mq E s.ah c.argTypes.toList (c.args.toList.map s.eval) with
     | some Z9=>Z9
     | none=>[]) with
   | some (_,res)=>match res.all TV.flat with
    | true=>[]
    | false=>c.args.toList.flatMap λ x=>a6q s (s.eval x)
   | none=>[]
  | _=>[]
 | _=>[]
mutual
def AV.KC(id:Nat)(u:AV):AV->AV
 | .row i=>match Nat.beq i id with
  | true=>u
  | false => .row i
 | .eG i k off=>match Nat.beq i id with
  | true => .any
  | false => .eG i k off
 | .agg cs => .agg (AV.VO id u cs)
 | .iP cs => .iP (AV.VO id u cs)
 | .c9 f cs => .c9 f (AV.VO id u cs)
 | v=>v
def AV.VO(id:Nat)(u:AV):List AV->List AV
 | []=>[]
 | v::r=>AV.KC id u v::AV.VO id u r
end
def aA.KC(id:Nat)(u:AV):aA->aA
 | .box cs => .box (AV.VO id u cs)
 | o=>o
mutual
def AV.Hd(id:Nat)(u:AV):AV->AV
 | .aw i=>match Nat.beq i id with
  | true=>u
  | false => .aw i
 | .sub i k off z=>match Nat.beq i id with
  | true => .any
  | false => .sub i k off z
 | .eP i k off z=>match Nat.beq i id with
  | true => .any
  | false => .eP i k off z
 | .agg cs => .agg (AV.VN id u cs)
 | .iP cs => .iP (AV.VN id u cs)
 | .c9 f cs => .c9 f (AV.VN id u cs)
 | v=>v
def AV.VN(id:Nat)(u:AV):List AV->List AV
 | []=>[]
 | v::r=>AV.Hd id u v::AV.VN id u r
end
def aA.Hd(id:Nat)(u:AV):aA->aA
 | .box cs => .box (AV.VN id u cs)
 | o=>o
def ai.freeze(s:ai)(id:Nat):ai :=
 match s.ah id with
 | some (.row _ τ xs) =>
  { aC:=AV.VO id (.aF ⟨.slice τ,xs⟩) s.aC,aK:=(bR id s.aK).map λ p=>(p.1,p.2.KC id (.aF ⟨.slice τ,xs⟩)) }
 | some (.aw τ xs) =>
  { aC:=AV.VN id (.aF ⟨.slice τ,xs⟩) s.aC,aK:=(bR id s.aK).map λ p=>(p.1,p.2.Hd id (.aF ⟨.slice τ,xs⟩)) }
 | _=>s
def UF(_:Env)(_:ai)(_:Option Nat)(_:TypeId)(_ _ _:Operand):Option (Vc×ai):=none
def ZX(E:Env)(s:ai)(o:Oper):Option (Vc×ai) :=
 match o.op with
 | .mapUpdate T m k x=>UF E s o.dst T m k x
 | .insert T m k x=>UF E s o.dst T m k x
 | .store T a x=>match ah E.ty T with
  | some (
      τ,_)=>match s.eval a with
   | .ptr id off=>match s.ah id with
    | some (.box cs)=>match cellsOf τ (s.eval x) with
     | some new=>match putCells cs off new with
      | some dB=>some (.none,{ s with aK:=(id, .box dB)::bR id s.aK }.put o.dst .any)
      | none=>none
     | none=>none
    | _=>none
   | .eG id i 0=>match s.ah id with
    | some (.row e' bf xs)=>match decide (bf=τ),zI (λ _=>none) bf (s.eval x) with
     | true,some x=>some (.none,{ s with aK:=(id, .row e' bf (xs.set i x))::bR id s.aK }.put o.dst .any)
     | _,_=>none
    | _=>none
   | _=>none
  | none=>none
 | .call c=>match c.callee with
  | .builtin .append=>match o.dst,c.argTypes.toList with
   | some d,[T,T']=>match Nat.beq T T',ah E.ty T with
    | true,some (.slice τ,b,e)=>match c.args.toList.map s.eval with
     | [.row id,y]=>match s.ah id,jH (Qg s.ah) (.slice τ) y with
      | some (.row e' bf xs),some ys=>match Nat.beq e' e,TV.Z9 (.slice τ) ⟨.slice bf,xs⟩ with
       | true,some cR =>
        let s':=s.cp id;some (.some (aY (cR.length+ys.length) b),{ aC:=s'.aC.set d (.row id),aK:=(id, .row e τ (cR++ys))::bR id s'.aK })
       | _,_=>none
      | _,_=>none
     | _=>none
    | _,_=>none
   | _,_=>none
  | _=>none
 | _=>none
def nodupB:List Nat->Bool
 | []=>true
 | a::r=>match r.contains a with
  | true=>false
  | false=>nodupB r
def cx:Option aA->Bool
 | some (.aw ..)=>true
 | _=>false
def iN(id:Nat):TV->AV
 | ⟨.slice _,_⟩ => .aw id
 | ⟨.mv _,_⟩ => .any
 | u => .aF u
def fI(id:Nat):TV->List (Nat×aA)
 | ⟨.slice τ,xs⟩=>[(id, .aw τ xs)]
 | _=>[]
def ca:Nat->List TV->List AV
 | _,[]=>[]
 | id,u::r=>iN id u::ca (id+1) r
def bZ:Nat->List TV->List (Nat×aA)
 | _,[]=>[]
 | id,u::r=>fI id u++bZ (id+1) r
def eZ(id:Nat):TV->AV
 | ⟨.st s,y⟩ => .agg (ca id (s.cells y))
 | v=>iN id v
def Qn:Nat->List TV->List AV
 | _,[]=>[]
 | id,v::r=>eZ id v::Qn (id+20) r
def bw:Nat->List TV->List (Nat×aA)
 | _,[]=>[]
 | id,v::r=>bZ id v.cells++bw (id+20) r
def kr(id:Nat):List TV->AV
 | [v]=>eZ id v
 | vs => .iP (Qn id vs)
def Ty.agg:Ty->Bool
 | .st _=>true
 | _=>false
def Ty.wI:Ty->Bool
 | .int _ | .bool | .str | .ptr=>true
 | _=>false
def Ty.key:Ty->Bool
 | .int _ | .bool | .str=>true
 | _=>false
def Ty.plain:Ty->Bool
 | .st s=>s.s7.all Ty.wI
 | .slice _=>false
 | .mv _=>false
 | _=>true
def dY(lk:Nat->Option aA)(τ:Ty):AV->Option (τ.den×List Nat)
 | .aF v=>match τ.wI,v.Z9 τ with
  | true,some y=>some (y,[])
  | _,_=>none
 | .nil=>match τ with
  | .slice _=>some ([],[])
  | _=>none
 | .aw id=>match lk id with
  | some (.aw bf xs)=>match TV.Z9 τ ⟨.slice bf,xs⟩ with
   | some y=>some (y,[id])
   | none=>none
  | _=>none
 | .row id=>match lk id with
  | some (.row _ bf xs)=>match bf.plain,TV.Z9 τ ⟨.slice bf,xs⟩ with
   | true,some y=>some (y,[id])
   | _,_=>none
  | _=>none
 | _=>none
def sR(lk:Nat->Option aA):List AV->List Ty->Option (List TV×List Nat)
 | [],[]=>some ([],[])
 | c::cs,t::ts=>match dY lk t c with
  | some (x,i)=>match sR lk cs ts with
   | some (r,j)=>some (⟨t,x⟩::r,i++j)
   | none=>none
  | none=>none
 | _,_=>none
def qH(lk:Nat->Option aA)(τ:Ty):AV->Option (τ.den×List Nat)
 | .agg cs=>match τ with
  | .st s=>match sR lk cs s.s7 with
   | some (l,ids)=>match s.fS l with
    | some y=>some (y,ids)
    | none=>none
   | none=>none
  | _=>none
 | v=>dY lk τ v
mutual
def AV.QC:AV->Bool
 | .sub .. => true
 | .agg cs=>AV.oU cs
 | .iP cs=>AV.oU cs
 | .c9 _ cs=>AV.oU cs
 | _=>false
def AV.oU:List AV->Bool
 | []=>false
 | v::r=>match AV.QC v with
  | true=>true
  | false=>AV.oU r
end
def AV.de(v:AV):AV:=match v.QC with
 | true => .any
 | false=>v
def aA.de:aA->aA
 | .box cs => .box (cs.map AV.de)
 | o=>o
def ai.bW(s:ai):ai:={ aC:=s.aC.map AV.de,aK:=s.aK.map λ p=>(p.1,p.2.de) }
def ai.dF(s:ai)(id:Nat)(τ:Ty)(xs:List τ.den):ai :=
 { s with aK:=(id, .aw τ xs)::bR id s.aK }
def ai.gone(s:ai)(id:Nat):ai :=
 let s':=s.cp id
 { s' with aK:=bR id s'.aK }
def ai.gI(s:ai):List AV->List TV->ai
 | .aw id::cs,⟨.slice τ,xs⟩::us=>(s.dF id τ xs).gI cs us
 | _::cs,_::us=>s.gI cs us
 | _,_=>s
def kI(τ:Ty)(x:τ.den)(off:Nat)(u:TV):Option τ.den :=
 match τ with
 | .st s=>match (s.cells x)[off]? with
  | some v=>match decide (v.τ=u.τ) with
   | true=>s.fS ((s.cells x).set off u)
   | false=>none
  | none=>none
 | τ=>match Nat.beq off 0 with
  | true=>u.Z9 τ
  | false=>none
def Ty.full:Ty->Ty
 | .mv t => .slice t
 | t=>t
def Ty.a9T:Ty->Ty->Bool
 | .st p, .st q=>decide (p.s7.map Ty.full=q.s7)
 | _,_=>false
def Ty.UH:Ty->Bool
 | .mv _=>true
 | t=>t.wI
def a2Y:TV->TV
 | ⟨.mv t,o⟩=>⟨.slice t,Option.getD (α:=List t.den) o []⟩
 | u=>u
def ZW:TV->TV
 | ⟨.mv t,_⟩=>⟨.mv t,(none:Option (List t.den))⟩
 | u=>u
def Cu:List TV->Prop
 | []=>True
 | ⟨.mv t,o⟩::r=>Option.isSome (α:=List t.den) o=true/\Cu r
 | _::r=>Cu r
def a4E(s:ai)(d:Nat)(m:Cp)(vs:List AV):Option (Vc×ai):=match vs with
 | [.aw id, .aF ⟨.int .i64,n⟩]=>match s.ah id with
  | some (.aw τ xs)=>match TV.Z9 m.τ ⟨.slice τ,xs⟩ with
   | some x=>match TV.Z9 (.slice τ) ⟨m.τ,(m.g x n).2.1⟩ with
    | some cR=>some ((m.g x n).1,(s.bW.dF id τ cR).put (some d) (.aF ⟨.int .i64,(m.g x n).2.2⟩))
    | none=>none
   | none=>none
  | _=>none
 | [.sub id i off sz, .aF ⟨.int .i64,n⟩]=>match s.ah id with
  | some (.aw τ xs)=>match TV.part ⟨τ,xs.getD i τ.zero⟩ off m.τ with
   | some u=>match u.Z9 m.τ,Nat.beq τ.size sz&&(!m.τ.agg&&Nat.blt off τ.size) with
    | some x,true=>match kI τ (xs.getD i τ.zero) off ⟨m.τ,(m.g x n).2.1⟩ with
     | some y=>some ((m.g x n).1,(s.bW.dF id τ (xs.set i y)).put (some d) (.aF ⟨.int .i64,(m.g x n).2.2⟩))
     | none=>none
    | _,_=>none
   | none=>none
  | _=>none
 | [.agg cs, .aF ⟨.int .i64,n⟩]=>match qH s.ah m.τ (.agg cs) with
  | some (x,ids)=>match nodupB ids&&ids.all λ id=>cx (s.ah id) with
   | true=>some ((m.g x n).1,(s.bW.gI cs (TV.cells ⟨m.τ,(m.g x n).2.1⟩)).put (some d) (.aF ⟨.int .i64,(m.g x n).2.2⟩))
   | false=>none
  | none=>none
 | _=>none
def a2S:Ty->Bool
 | .slice _=>true
 | t=>t.wI
def Q9(id i sz:Nat):Nat->List TV->List AV
 | _,[]=>[]
 | j,u::us=>(match u.τ.wI with
  | true => .aF u
  | false => .sub id i j sz)::Q9 id i sz (j+1) us
def a1I(s:ai)(d:Option Nat)(id i off sz:Nat)(τ bf:Ty)(xs:List bf.den):Option (Vc×ai):=match τ with
 | .st q=>match Nat.beq q.size sz&&(Nat.beq off 0&&q.s7.all a2S),TV.Z9 (.st q) ⟨bf,xs.getD i bf.zero⟩ with
  | true,some y=>some (.none,s.put d (.agg (Q9 id i sz 0 (q.cells y))))
  | _,_=>none
 | _=>none
def oop(E:Env)(s:ai)(o:Oper):Option (Vc×ai) :=
 match o.op with
 | .indexAddr T x ix=>match ah E.ty T with
  | some (.slice τ,_)=>match s.eval ix,s.eval x with
   | .aF ⟨.int _,n⟩, .aw id=>match s.ah id with
    | some (.aw bf xs)=>match decide (bf=τ)||bf.a9T τ with
     | true=>some (.some (ak n xs.length),s.put o.dst (.eP id n.toNat 0 τ.size))
     | false=>none
    | _=>none
   | _,_=>none
  | _=>none
 | .fieldAddr T x i=>match ah E.ty T with
  | some (.st n,_)=>match s.eval x with
   | .eP id k off sz=>match Nat.blt i n.fu.length with
    | true=>some (.none,s.put o.dst (.eP id k (off+n.eW i) sz))
    | false=>none
   | _=>none
  | _=>none
 | .load T ad=>match ah E.ty T with
  | some (
      τ,_)=>match s.eval ad with
   | .eP id i off sz=>match s.ah id with
    | some (.aw bf xs)=>match TV.part ⟨bf,xs.getD i bf.zero⟩ off τ,Nat.beq bf.size sz&&(!τ.agg&&Nat.blt off bf.size) with
     | some u,true=>match τ.wI with
      | true=>some (.none,s.put o.dst (.aF u))
      | false=>some (.none,s.put o.dst (.sub id i off sz))
     | _,_=>a1I s o.dst id i off sz τ bf xs
    | _=>none
   | _=>none
  | none=>none
 | .store T ad x=>match ah E.ty T with
  | some (
      τ,_)=>match s.eval ad with
   | .eP id i off sz=>match s.ah id with
    | some (
        .aw bf xs)=>match Nat.beq bf.size sz&&Nat.blt off bf.size with
     | true=>match τ.wI with
      | true=>match dY (λ _=>none) τ (s.eval x) with
       | some (u,_)=>match TV.part ⟨bf,xs.getD i bf.zero⟩ off τ,kI bf (xs.getD i bf.zero) off ⟨τ,u⟩ with
        | some _,some y=>some (.none,(s.bW.dF id bf (xs.set i y)).put o.dst .any)
        | _,_=>none
       | none=>none
      | false=>match Nat.beq off 0,qH s.ah τ (s.eval x) with
       | true,some (y,ids)=>match nodupB (id::ids),TV.Z9 bf ⟨τ,y⟩ with
        | true,some y'=>some (.none,((ids.foldl ai.gone s).bW.dF id bf (xs.set i y')).put o.dst .any)
        | _,_=>none
       | _,_=>none
     | false=>none
    | _=>none
   | _=>none
  | none=>none
 | .makeSlice T l cc=>match o.dst,ah E.ty T with
  | some d,some (.slice τ,b,_)=>match E.own.contains d&&Nat.blt d 50 with
   | true=>match s.eval l,s.eval cc with
    | .aF ⟨.int .i64,n⟩, .aF ⟨.int .i64,m⟩=>some (.some (bJ n m b),{ aC:=(s.gone d).aC.set d (.aw d),aK:=(d, .aw τ (List.replicate n.toNat τ.zero))::(s.gone d).aK })
    | _,_=>none
   | false=>none
  | _,_=>none
 | .call c=>match c.callee with
  | .builtin .len=>match c.argTypes.toList,c.args.toList.map s.eval with
   | [T],[.aw id]=>match ah E.ty T,s.ah id with
    | some (.slice _,_),some (.aw _ xs)=>some (.none,s.put o.dst (.aF ⟨.int .i64,(xs.length:Int)⟩))
    | _,_=>none
   | _,_=>none
  | .value (
       .func f)=>match o.dst with
   | some d=>match E.own.contains d with
    | true=>match E.mark f with
     | some m=>a4E s d m (c.args.toList.map s.eval)
     | none=>match mq E s.ah c.argTypes.toList (c.args.toList.map s.eval) with
      | some Z9=>match E.Qh f Z9 with
       | some (pre,res)=>match ((bw (100 * (d+1)) res).all λ p=>(s.ah p.1).isNone)&&nodupB ((bw (100 * (d+1)) res).map (·.1)) with
        | true=>some (pre,{ aC:=s.aC.set d (kr (100 * (d+1)) res),aK:=bw (100 * (d+1)) res++s.aK })
        | false=>none
       | none=>none
      | none=>none
    | false=>none
   | none=>none
  | _=>none
 | _=>none
def bT(d:Nat):Nat:=100 * (d+1)
def JG(lk:Nat->Option aA)(τ:Ty):Nat->List (Nat×AV)->Option (List τ.den×List Nat)
 | _,[]=>some ([],[])
 | n,(
    i,v)::r=>match Nat.beq i n with
  | true=>match qH lk τ v with
   | some (x,ids)=>match JG lk τ (n+1) r with
    | some (xs,js)=>some (x::xs,ids++js)
    | none=>none
   | none=>none
  | false=>none
def ai.sV(s:ai)(d:Nat)(τ:Ty)(xs:List τ.den):ai :=
 { aC:=s.aC.set d (.aw (bT d)),aK:=(bT d, .aw τ xs)::s.aK }
def gM(E:Env)(lk:Nat->Option aA):List Bool->List TypeId->List AV->Option (List (Option TV)×List Nat)
 | [],[],[]=>some ([],[])
 | true::fl,T::Ts,v::vs=>match ah E.ty T with
  | some (τ,_)=>match qH lk τ v with
   | some (x,i)=>match gM E lk fl Ts vs with
    | some (r,j)=>some (some ⟨τ,x⟩::r,i++j)
    | none=>none
   | none=>none
  | none=>none
 | false::fl,_::Ts,_::vs=>match gM E lk fl Ts vs with
  | some (r,j)=>some (none::r,j)
  | none=>none
 | _,_,_=>none
def fC(E:Env)(lk:Nat->Option aA):List (Option TV)->List TypeId->List AV->Option (List Arg)
 | [],[],[]=>some []
 | some x::r,_::Ts,_::vs=>match fC E lk r Ts vs with
  | some Z9=>some (.own x::Z9)
  | none=>none
 | none::r,T::Ts,v::vs=>match U6 E lk T v with
  | some x=>match x.NW,fC E lk r Ts vs with
   | true,some Z9=>some (x::Z9)
   | _,_=>none
  | none=>none
 | _,_,_=>none
def ZQ(E:Env)(s:ai)(o:Oper):Option (Vc×ai) :=
 match o.dst with
 | some d=>match E.own.contains d with
  | true=>match o.op with
   | .buildSlice T len parts=>match ah E.ty T with
    | some (.slice τ,_)=>match Nat.beq parts.size len&&Nat.ble len 1000 with
     | true=>match JG s.ah τ 0 (parts.toList.map λ p=>(p.1,s.eval p.2)) with
      | some (xs,ids)=>match nodupB ids,(ids.foldl ai.gone s).ah (bT d) with
       | true,none=>some (.none,(ids.foldl ai.gone s).sV d τ xs)
       | _,_=>none
      | none=>none
     | false=>none
    | _=>none
   | .load T ad=>match ah E.ty T,s.eval ad with
    | some (.st q,_), .eP id i 0 sz=>match s.ah id with
     | some (.aw (.st p) xs)=>match Nat.beq p.size sz&&p.s7.all Ty.UH,p.fS ((p.cells (xs.getD i (Ty.zero (.st p)))).map ZW),q.fS ((p.cells (xs.getD i (Ty.zero (.st p)))).map a2Y) with
      | true,some y,some z=>match ((bZ (bT d) (q.cells z)).all λ e=>(s.ah e.1).isNone)&&nodupB ((bZ (bT d) (q.cells z)).map (·.1)) with
       | true=>some (.some (Cu (p.cells (xs.getD i (Ty.zero (.st p))))),{ aC:=s.bW.aC.set d (eZ (bT d) ⟨.st q,z⟩),aK:=bZ (bT d) (q.cells z)++(s.bW.dF id (.st p) (xs.set i y)).aK })
       | false=>none
      | _,_,_=>none
     | _=>none
    | _,_=>none
   | .call c=>match c.callee with
    | .builtin .append=>match c.argTypes.toList with
     | [T,T']=>match Nat.beq T T',ah E.ty T with
      | true,some (.slice τ,b,_)=>match c.args.toList.map s.eval with
       | [x,y]=>match dY s.ah (.slice τ) x,dY s.ah (.slice τ) y with
        | some (xs,i),some (ys,j)=>match nodupB (i++j),((i++j).foldl ai.gone s).ah (bT d) with
         | true,none=>some (.some (aY (xs.length+ys.length) b),((i++j).foldl ai.gone s).sV d τ (xs++ys))
         | _,_=>none
        | _,_=>none
       | _=>none
      | _,_=>none
     | _=>none
    | .value (
         .func f)=>match E.tk f with
     | []=>none
     | fl=>match gM E s.ah fl c.argTypes.toList (c.args.toList.map s.eval) with
      | some (own,ids)=>match nodupB ids,fC E (ids.foldl ai.gone s).ah own c.argTypes.toList (c.args.toList.map (ids.foldl ai.gone s).eval) with
       | true,some Z9=>match E.Qh f Z9 with
        | some (pre,res)=>match ((bw (bT d) res).all λ p=>((ids.foldl ai.gone s).ah p.1).isNone)&&nodupB ((bw (bT d) res).map (·.1)) with
         | true=>some (pre,{ aC:=(ids.foldl ai.gone s).aC.set d (kr (bT d) res),aK:=bw (bT d) res++(ids.foldl ai.gone s).aK })
         | false=>none
        | none=>none
       | _,_=>none
      | none=>none
    | _=>none
   | _=>none
  | false=>none
 | none=>none
def ji:List (Option Nat)->List AV->List (Nat×Nat)->Option (List (Nat×Nat))
 | [],[],m=>some m
 | some k::fl,v::vs,m=>match v with
  | .ptr id 0=>match ah m k with
   | some i=>match Nat.beq i id with
    | true=>ji fl vs m
    | false=>none
   | none=>ji fl vs ((k,id)::m)
  | _=>none
 | none::fl,_::vs,m=>ji fl vs m
 | _,_,_=>none
def dd(lk:Nat->Option aA):List CK->List AV->List (Nat×Nat)->Option (List TV×List Nat×List (Nat×Nat))
 | [],[],m=>some ([],[],m)
 | .d τ::ks,v::vs,m=>match jH (λ _=>none) τ v,τ.agg with
  | some x,false=>match dd lk ks vs m with
   | some (ds,ids,m)=>some (⟨τ,x⟩::ds,ids,m)
   | none=>none
  | _,_=>none
 | .o τ::ks,v::vs,m=>match dY lk τ v,τ.agg with
  | some (x,i),false=>match dd lk ks vs m with
   | some (ds,ids,m)=>some (⟨τ,x⟩::ds,i++ids,m)
   | none=>none
  | _,_=>none
 | .p j::ks,v::vs,m=>match v with
  | .ptr id 0=>match ah m j with
   | some i=>match Nat.beq i id with
    | true=>dd lk ks vs m
    | false=>none
   | none=>dd lk ks vs ((j,id)::m)
  | _=>none
 | _,_,_=>none
def iZ(lk:Nat->Option aA):List (List CK)->Nat->List (Nat×Nat)->Option (List (List TV)×List Nat×List (Nat×Nat))
 | [],_,m=>some ([],[],m)
 | ks::sh,k,m=>match ah m k with
  | some id=>match lk id with
   | some (.box cs)=>match dd lk ks cs m with
    | some (ds,i,m)=>match iZ lk sh (k+1) m with
     | some (bM,ids,m)=>some (ds::bM,i++ids,m)
     | none=>none
    | none=>none
   | _=>none
  | none=>none
def a3F(lk:Nat->Option aA)(ids:List Nat)(id:Nat):Option aA:=match ids.contains id with
 | true=>none
 | false=>match lk id with
  | some (.box cs)=>some (.box cs)
  | _=>none
def O4(sh:List (List CK)):Bool:=sh.all λ ks=>ks.all λ k=>match k with
 | .d (.slice _)=>false
 | .d (.mv _)=>false
 | _=>true
def sLk(sh:List (List CK))(lk:Nat->Option aA)(ids:List Nat)(id:Nat):Option aA:=match O4 sh with
 | true=>match ids.contains id with
  | true=>none
  | false=>lk id
 | false=>a3F lk ids id
def sB(E:Env)(lk:Nat->Option aA):List (Option Nat)->List TypeId->List AV->Option (List Arg)
 | [],[],[]=>some []
 | some k::fl,_::Ts,_::vs=>match sB E lk fl Ts vs with
  | some r=>some (.box k::r)
  | none=>none
 | none::fl,T::Ts,v::vs=>match U6 E lk T v with
  | some x=>match sB E lk fl Ts vs with
   | some r=>some (x::r)
   | none=>none
  | none=>none
 | _,_,_=>none
def cn(m:List (Nat×Nat)):List CK->List AV->List TV->Nat->Option (List AV×List (Nat×aA)×Nat)
 | [],[],[],n=>some ([],[],n)
 | .d τ::ks,_::cs,v::ds,n=>match decide (v.τ=τ) with
  | true=>match cn m ks cs ds n with
   | some (r,os,n)=>some (.aF v::r,os,n)
   | none=>none
  | false=>none
 | .o τ::ks,_::cs,v::ds,n=>match decide (v.τ=τ) with
  | true=>match cn m ks cs ds (n+1) with
   | some (r,os,n')=>some (iN n v::r,fI n v++os,n')
   | none=>none
  | false=>none
 | .p j::ks,c::cs,ds,n=>match c with
  | .ptr id 0=>match ah m j with
   | some i=>match Nat.beq i id,cn m ks cs ds n with
    | true,some (r,os,n)=>some (.ptr id 0::r,os,n)
    | _,_=>none
   | none=>none
  | _=>none
 | _,_,_,_=>none
def ss(lk:Nat->Option aA)(m:List (Nat×Nat)):List (List CK)->Nat->List (List TV)->Nat->Option (List (Nat×aA)×List (Nat×aA))
 | [],_,[],_=>some ([],[])
 | ks::sh,k,ds::bM,n=>match ah m k with
  | some id=>match lk id with
   | some (.box cs)=>match cn m ks cs ds n with
    | some (r,os,n)=>match ss lk m sh (k+1) bM n with
     | some (bs,ts)=>some ((id, .box r)::bs,os++ts)
     | none=>none
    | none=>none
   | _=>none
  | none=>none
 | _,_,_,_=>none
def gG:List Nat->List (Nat×aA)->List (Nat×aA)
 | [],os=>os
 | id::r,os=>gG r (bR id os)
def sop(E:Env)(s:ai)(o:Oper):Option (Vc×ai) :=
 match o.dst with
 | some d=>match o.op with
  | .call c=>match c.callee with
   | .value (
        .func f)=>match E.sk f with
    | some sk=>match ji sk.ps (c.args.toList.map s.eval) [] with
     | some m0=>match iZ s.ah sk.sh 0 m0 with
      | some (
          bM,ids,m)=>match nodupB ids&&(nodupB (m.map (·.1))&&(nodupB (m.map (·.2))&&Nat.beq m.length sk.sh.length)) with
       | true=>match sB E (sLk sk.sh (ids.foldl ai.gone s).ah (m.map (·.2))) sk.ps c.argTypes.toList (c.args.toList.map (ids.foldl ai.gone s).eval) with
        | some Z9=>match E.Zu f Z9 bM with
         | some (pre,res,dJ)=>match ss (ids.foldl ai.gone s).ah m sk.sh 0 dJ (bT d+60) with
          | some (bs,ts)=>match ((bw (bT d) res++ts).all λ p=>((ids.foldl ai.gone s).ah p.1).isNone)&&nodupB ((bw (bT d) res++ts).map (·.1)) with
           | true=>some (pre,{ aC:=(ids.foldl ai.gone s).aC.set d (kr (bT d) res),aK:=bs++(bw (bT d) res++ts)++gG (m.map (·.2)) (ids.foldl ai.gone s).aK })
           | false=>none
          | none=>none
         | none=>none
        | none=>none
       | false=>none
      | none=>none
     | none=>none
    | none=>none
   | _=>none
  | _=>none
 | none=>none
def known(v:AV)(K:Prop):Prop :=
 match v with
 | .aF ⟨.int .i64,n⟩=>O n->K
 | .aF ⟨.slice _,xs⟩=>xs.length<=140737488355328->K
 | .aF ⟨.str,xs⟩=>xs.length<=140737488355328->K
 | _=>K
def Xy:Op->Bool
 | .load .. | .field .. | .index .. | .extract .. => true
 | .call c=>match c.callee with
  | .builtin .append=>false
  | _=>true
 | _=>false
def uf:Option Nat->Bool
 | none=>true
 | some d=>Nat.blt d 400000
def AV.stays:AV->Bool
 | .aF v=>match v.τ with
  | .ptr=>false
  | _=>true
 | .cZ _=>true
 | _=>false
def b2C:Bool×TV->AV
 | (true,v) => .cZ v
 | (false,v) => .aF v
def nop(E:Env)(s:ai)(o:Oper):Option (Vc×AV×Option aA):=match o.op with
 | .call c=>match c.callee with
  | .value (.func f)=>match o.dst with
   | some d=>match mq E (sP s.ah) c.argTypes.toList (c.args.toList.map s.eval) with
    | some Z9=>match E.WX f Z9 with
     | some (pre, .box cells)=>some (pre, .ptr d 0,some (.box (cells.map .aF)))
     | some (pre, .row e τ xs)=>some (pre, .row d,some (.row e τ xs))
     | some (pre, .res l)=>match (c.args.toList.map s.eval).all AV.stays with
      | true=>some (pre, .iP (l.map b2C),none)
      | false=>none
     | none=>none
    | none=>none
   | none=>none
  | _=>none
 | _=>none
def kZ(E:Env)(o:Oper)(K:ai->Prop)(s:ai):Prop :=
 match uf o.dst with
 | false=>False
 | true =>
 let s:=(kN E s o).foldl ai.freeze s;match sop E s o with
 | some (vc,s')=>vc.and (K s')
 | none=>match ZQ E s o with
 | some (vc,s')=>vc.and (K s')
 | none=>match ZX E s o with
 | some (vc,s')=>vc.and (K s')
 | none=>match oop E s o with
 | some (vc,s')=>vc.and (K s')
 | none=>match nop E s o with
 | some (vc,v,ob)=>vc.and (K (s.lay o.dst v ob))
 | none=>match NN E s.ah s.eval o with
  | some (vc,v,ob)=>vc.and (match Xy o.op with
   | true=>known v (K (s.lay o.dst v ob))
   | false=>K (s.lay o.dst v ob))
  | none=>False
def yg(ops:Array Oper)(g:Nat):Option Nat:=(ops[g]?).bind (·.dst)
def ft(
      E:Env) (ops:Array Oper):List Oper->List (Nat×Bool)->(ai->Prop)->ai->Prop
 | [],_,Q,s=>Q s
 | o::r,kn,Q,s=>match o.guard with
  | none=>kZ E o (ft E ops r kn Q) s
  | some (
      g,want)=>match yg ops g with
   | none=>False
   | some t=>match ah kn t with
    | some b=>match s.eval (.tmp t) with
     | .aF ⟨.bool,b'⟩=>match b' == b,b == want with
      | true,true=>kZ E o (ft E ops r kn Q) s
      | true,false=>ft E ops r kn Q (s.put o.dst .ei)
      | false,_=>False
     | .ei=>ft E ops r kn Q (s.put o.dst .ei)
     | _=>False
    | none=>match s.eval (.tmp t) with
     | .aF ⟨.bool,b⟩ =>
      (b=want->kZ E o (ft E ops r ((t,want)::kn) Q) (s.put (some t) (.aF ⟨.bool,want⟩))) /\
      (b = !want->ft E ops r ((t,!want)::kn) Q ((s.put (some t) (.aF ⟨.bool,!want⟩)).put o.dst .ei))
     | .ei=>ft E ops r kn Q (s.put o.dst .ei)
     | _=>False
def xc(acc:List Nat)(s:Nat)(e:Edge):Nat :=
 match Region.binds .any e with
 | true=>s ||| (1 <<< e.on ||| acc.getD e.on 0)
 | false=>s
def bU:List Oper->List Nat->List Nat
 | [],acc=>acc
 | o::r,acc=>bU r (acc++[o.after.toList.foldl (xc acc) 0])
def nW:List Nat->Nat->Nat->Nat
 | [],_,m=>m
 | b::r,i,m=>match Nat.beq (b+1) (2 ^ i) with
  | true=>nW r (i+1) m
  | false=>nW r (i+1) (i+1)
def cE(ops:List Oper)(k:Nat):Option Nat:=(ops[k]?).bind (·.dst)
def hidden(ops:List Oper)(m bits t:Nat):Bool:=(List.range m).any λ k=>match cE ops k with
 | some d=>match Nat.beq d t with
  | true => !Nat.testBit bits k
  | false=>false
 | none=>false
def XM(ops:List Oper)(m bits:Nat)(s:ai):Operand->AV
 | .tmp t=>match hidden ops m bits t with
  | true => .any
  | false=>s.eval (.tmp t)
 | x=>s.eval x
def Ua(ops:List Oper)(m bits:Nat)(s:ai)(id:Nat):Option aA:=match hidden ops m bits id with
 | true=>none
 | false=>s.ah id
def xH:Op->Bool
 | .alloc _ | .box .. | .buildSlice .. | .makeSlice .. | .makeMap .. => true
 | .call c=>match c.callee with
  | .builtin .append=>true
  | _=>false
 | _=>false
def ai.fresh(s:ai)(o:Oper):ai :=
 match xH o.op,o.dst with
 | true,some d=>let s':=s.cp d
  { s' with aK:=bR d s'.aK }
 | _,_=>s
def ai.jw(s:ai)(d:Option Nat)(v:AV)(o:Option aA):ai :=
 match d with
 | some d=>{ aC:=s.aC.set d v,aK:=match o with
  | some o=>(d,o)::s.aK
  | none=>s.aK }
 | none=>s
def Qu(E:Env)(ops:List Oper)(m bits:Nat)(o:Oper)(K:ai->Prop)(s:ai):Prop :=
 match kN E s o with
 | []=>match NN E (Ua ops m bits s) (XM ops m bits s) o with
  | some (vc,v,ob)=>vc.and (K (s.jw o.dst v ob))
  | none=>False
 | _=>False
def mD(
      E:Env) (ops:List Oper) (m:Nat) (ck:List Nat):Nat->List Oper->List (Nat×Bool)->(List (Nat×Bool)->ai->Prop)->ai->Prop
 | _,[],kn,Q,s=>Q kn s
 | i,o::r,kn,Q,s=>match o.guard with
  | none=>Qu E ops m (ck.getD i 0) o (mD E ops m ck (i+1) r kn Q) s
  | some (
      g,want)=>match cE ops g,Nat.testBit (ck.getD i 0) g with
   | some t,true=>match ah kn t with
    | some b=>match s.eval (.tmp t) with
     | .aF ⟨.bool,b'⟩=>match b' == b,b == want with
      | true,true=>Qu E ops m (ck.getD i 0) o (mD E ops m ck (i+1) r kn Q) s
      | true,false=>mD E ops m ck (i+1) r kn Q (s.put o.dst .ei)
      | false,_=>False
     | .ei=>mD E ops m ck (i+1) r kn Q (s.put o.dst .ei)
     | _=>False
    | none=>match s.eval (.tmp t) with
     | .aF ⟨.bool,b⟩ =>
      (b=want->Qu E ops m (ck.getD i 0) o (mD E ops m ck (i+1) r ((t,want)::kn) Q) (s.put (some t) (.aF ⟨.bool,want⟩))) /\
      (b = !want->mD E ops m ck (i+1) r ((t,!want)::kn) Q ((s.put (some t) (.aF ⟨.bool,!want⟩)).put o.dst .ei))
     | .ei=>mD E ops m ck (i+1) r kn Q (s.put o.dst .ei)
     | _=>False
   | _,_=>False
def distinct:List (Option Nat)->Bool
 | []=>true
 | none::_=>false
 | some d::r=>match r.any λ x=>match x with
   | some e=>Nat.beq d e
   | none=>false with
  | true=>false
  | false=>distinct r
def backward(ops:List Oper):Bool:=(List.range ops.length).all λ i=>match ops[i]? with
 | some o=>o.after.toList.all λ e=>match Region.binds .any e with
  | true=>Nat.blt e.on i
  | false=>true
 | none=>true
def xe(ops:List Oper)(s:ai)(K:Prop):Prop :=
 match ops with
 | []=>K
 | o::r=>match Xy o.op,o.dst with
  | true,some d=>known (s.aC.getD d .any) (xe r s K)
  | _,_=>xe r s K
def Wi(ck:List Nat)(p:Nat):Bool:=(ck.drop p).all λ b=>Nat.beq (b % 2 ^ p) (2 ^ p - 1)
def ZU(ck:List Nat):List Nat->List Nat
 | []=>[]
 | p::r=>match Wi ck p with
  | true=>p::ZU ck r
  | false=>ZU ck r
def xJ:List (Option Nat)->Bool
 | []=>true
 | none::r=>xJ r
 | some d::r=>match r.any λ x=>match x with
   | some e=>Nat.beq d e
   | none=>false with
  | true=>false
  | false=>xJ r
def Il(l:List Oper)(lo hi:Nat):Bool :=
 ((
  (l.take hi).drop lo).all λ o=>uf o.dst)&&xJ (((l.take hi).drop lo).map (·.dst))&&(l.take lo).all λ o=>match o.dst with
  | none=>true
  | some d => !(((l.take hi).drop lo).any λ p=>match p.dst with
   | some e=>Nat.beq d e
   | none=>false)
def Oper.alone(E:Env)(o:Oper):Bool:=match o.op with
 | .store .. | .mapUpdate .. | .insert .. => true
 | _=>match o.dst with
  | some d=>E.own.contains d
  | none=>false
def zD(u v:TV):Prop:=match u.Z9 v.τ with
 | some x=>x=v.x
 | none=>False
def a0z:Op->Option (List Operand)
 | .move x | .assign x | .nilCheck x | .fieldAddr _ x _ | .load _ x | .box _ x | .extract x _=>some [x]
 | .indexAddr _ x i | .store _ x i | .lookup _ x i _=>some [x,i]
 | .mapUpdate _ m k x | .insert _ m k x=>some [m,k,x]
 | .makeMap _ none=>some []
 | .alloc _=>some []
 | .binOp _ _ x y _=>some [x,y]
 | .build _ ps=>some (ps.toList.map (·.2))
 | .buildSlice _ _ ps=>some (ps.toList.map (·.2))
 | .call c=>match c.callee with
  | .value f=>some (f::c.args.toList)
  | .builtin _=>some c.args.toList
  | _=>none
 | .pick c x y=>some [c,x,y]
 | .slice _ x l h m=>some (x::(l.toList++(h.toList++m.toList)))
 | _=>none
def fY(D:List Nat)(o:Oper):Bool:=match a0z o.op with
 | some l=>l.all λ x=>match x with
  | .tmp t => !D.contains t
  | _=>true
 | none=>false
def reads:Op->Bool
 | .move _ | .nilCheck _ | .fieldAddr .. | .load .. | .indexAddr .. => true
 | _=>false
def rop(E:Env)(s:ai)(o:Oper):Option (Vc×AV):=match reads o.op with
 | true=>match NN E s.ah s.eval o with
  | some (vc,v,none)=>some (vc,v)
  | _=>none
 | false=>none
def Oo:AV->AV->Prop
 | .aF v, .aF u=>zD v u
 | .cZ v, .cZ u=>zD v u
 | .aw i, .aw j=>i=j
 | .row i, .row j=>i=j
 | .ptr i p, .ptr j q=>i=j/\p=q
 | .nil, .nil=>True
 | .ei, .ei=>True
 | _,_=>False
def Va:List AV->List AV->Prop
 | [],[]=>True
 | a::Z9,b::bs=>Oo a b/\Va Z9 bs
 | _,_=>False
def ZM(a b:AV):Prop:=match a,b with
 | .agg Z9, .agg bs=>Va Z9 bs
 | a,b=>Oo a b
def gS(E:Env):List (Nat×Oper)->ai->Prop->Prop
 | [],_,K=>K
 | r::rs,s,K=>match r.2.dst,rop E s r.2 with
  | some d,some (vc,v)=>vc.and (ZM v (s.aC.getD d .any)/\gS E rs s K)
  | _,_=>False
def Oq(E:Env):List (Nat×Oper)->(ai->Prop)->ai->Prop
 | [],K,s=>K s
 | r::rs,K,s=>match r.2.dst,rop E s r.2 with
  | some d,some (vc,v)=>vc.and (known v (Oq E rs K (s.put (some d) v)))
  | _,_=>False
def dstsOf(R:List (Nat×Oper)):List Nat:=R.filterMap λ r=>r.2.dst
def nS:Op->Bool
 | .alloc _=>true
 | _=>false
def kf:Op->Bool
 | .extract .. => true
 | _=>false
def wS:Op->Bool
 | .buildSlice _ len ps=>Nat.beq len 0&&Nat.beq ps.size 0
 | _=>false
def JB(E:Env)(o:Oper):Bool:=match o.dst with
 | some d=>E.ro.contains d
 | none=>false
def dt(E:Env)(o:Oper):Bool:=nS o.op||(kf o.op||(wS o.op&&JB E o))
def sM(E:Env)(X:List (Nat×Oper)):List Nat:=X.filterMap λ x=>match dt E x.2 with
 | true=>x.2.dst
 | false=>none
def AA(s:ai):Op->Bool
 | .extract t i=>match s.eval t with
  | .iP vs=>Nat.blt i vs.length
  | _=>false
 | _=>true
def a0o(E:Env)(ck:List Nat)(X:List (Nat×Oper))(s:ai):Bool:=X.all λ e=>AA s e.2.op||X.any λ y => !dt E y.2&&Nat.testBit (ck.getD e.1 0) y.1
def PM(ck:List Nat)(x:Nat×Oper):List (Nat×Oper)->List (Nat×Oper)
 | []=>[x]
 | y::ys=>match Nat.testBit (ck.getD y.1 0) x.1 with
  | true=>x::y::ys
  | false=>y::PM ck x ys
def Np(E:Env)(ck:List Nat):List (Nat×Oper)->List (Nat×Oper)
 | []=>[]
 | x::xs=>match dt E x.2 with
  | true=>PM ck x (Np E ck xs)
  | false=>x::Np E ck xs
def pG(E:Env)(o:Oper):Bool:=match o.op with
 | .alloc T=>o.dst.isSome&&(uf o.dst&&(ah E.ty T).isSome)
 | .extract .. => o.dst.isSome
 | .buildSlice T len ps => !(Nat.beq len 0&&Nat.beq ps.size 0&&JB E o)||(match o.dst,ah E.ty T with
  | some d,some (.slice _,_)=>Nat.blt d 400000&&(E.ro.contains d && !E.own.contains d)
  | _,_=>false)
 | _=>true
def Vl(E:Env)(ck:List Nat)(X:List (Nat×Oper))(y:Nat×Oper):Bool := !dt E y.2&&X.all λ z=>dt E z.2 || !Nat.testBit (ck.getD y.1 0) z.1
def CZ(p:Nat×Oper->Bool)(f:Nat×Oper->Prop):List (Nat×Oper)->Prop
 | []=>True
 | y::ys=>match p y with
  | true=>f y/\CZ p f ys
  | false=>CZ p f ys
def iz(E:Env)(ck:List Nat):Nat->List (Nat×Oper)->List (Nat×Oper)->(ai->Prop)->ai->Prop
 | 0,_,X,K,s=>match X with
  | []=>K s
  | _::_=>False
 | n+1,R,X,K,s=>match X with
  | []=>K s
  | x::xs=>match a0o E ck (x::xs) s with
   | true=>match fY (dstsOf (R.filter λ r => !Nat.testBit (ck.getD x.1 0) r.1)++sM E xs) x.2&&xs.all λ y=>dt E y.2||Nat.testBit (ck.getD y.1 0) x.1 with
    | true=>kZ E x.2 (λ s'=>gS E (R.filter λ r => !Nat.testBit (ck.getD x.1 0) r.1) s' (iz E ck n (R.filter λ r => !Nat.testBit (ck.getD x.1 0) r.1) xs K s')) s
    | false=>match dt E x.2 with
     | true=>False
     | false=>CZ (Vl E ck (x::xs)) (λ y=>match fY (dstsOf (R.filter λ r => !Nat.testBit (ck.getD y.1 0) r.1)++sM E ((x::xs).filter λ z => !Nat.beq z.1 y.1)) y.2 with
      | true=>kZ E y.2 (λ s'=>gS E (R.filter λ r => !Nat.testBit (ck.getD y.1 0) r.1) s' (iz E ck n (R.filter λ r => !Nat.testBit (ck.getD y.1 0) r.1) ((x::xs).filter λ z => !Nat.beq z.1 y.1) K s')) s
      | false=>False) (x::xs)
   | false=>False
def lD:Nat->List Oper->List (Nat×Oper)
 | _,[]=>[]
 | i,o::r=>(i,o)::lD (i+1) r
def Qr(E:Env)(o:Oper):Bool:=reads o.op&&(match o.dst with
 | some d => !E.own.contains d
 | none=>true)
def mY(E:Env)(ck:List Nat)(fv:List (Nat×Oper))(r:Nat×Oper):Bool :=
 Qr E r.2&&fv.all λ y=>Qr E y.2 || !Nat.testBit (ck.getD r.1 0) y.1
def a7w(E:Env)(ck:List Nat)(fv:List (Nat×Oper)):Bool :=
 (fv.all λ r=>r.2.guard.isNone&&pG E r.2)&&fv.all λ r => !(mY E ck fv r||kf r.2.op)||fY (dstsOf (fv.filter λ y => !Nat.testBit (ck.getD r.1 0) y.1)++bif kf r.2.op then sM E fv else []) r.2
def a4f(E:Env)(ck:List Nat)(fv:List (Nat×Oper))(K:ai->Prop)(s:ai):Prop :=
 match a7w E ck fv with
 | true=>Oq E (fv.filter (mY E ck fv)) (λ s'=>gS E (fv.filter (mY E ck fv)) s' (iz E ck fv.length (fv.filter (mY E ck fv)) (Np E ck (fv.filter λ r => !mY E ck fv r)) K s')) s
 | false=>False
def xy(E:Env)(ops:Array Oper)(l:List Oper)(ck:List Nat):List Nat->Nat->List (Nat×Bool)->(ai->Prop)->ai->Prop
 | [],lo,_,Q,s=>match Nat.beq lo l.length with
  | true=>Q s
  | false=>False
 | hi::r,lo,kn,Q,s=>match Wi ck hi&&(Wi ck lo&&(Nat.blt lo hi&&Nat.ble hi l.length)) with
  | true=>match Nat.beq hi (lo+1) with
   | true=>ft E ops ((l.take hi).drop lo) kn (xy E ops l ck r hi kn Q) s
   | false=>match Il l lo hi,((l.take hi).drop lo).any (Oper.alone E) with
    | true,true=>a4f E ck (lD lo ((l.take hi).drop lo)) (xy E ops l ck r hi kn Q) s
    | true,false=>mD E l hi ck lo ((l.take hi).drop lo) kn (λ kn s=>xe ((l.take hi).drop lo) s (xy E ops l ck r hi kn Q s)) (((l.take hi).drop lo).foldl ai.fresh s)
    | false,_=>False
  | false=>False
def Vd(E:Env)(ops:Array Oper)(Q:ai->Prop)(s:ai):Prop :=
 let l:=ops.toList
 let ck:=bU l []
 let m:=nW ck 0 0
 match ((l.take m).all λ o=>uf o.dst)&&(distinct ((l.take m).map (·.dst))&&backward l) with
 | true=>mD E l m ck 0 (l.take m) [] (λ kn s=>xe (l.take m) s (ft E ops (l.drop m) kn Q s)) ((l.take m).foldl ai.fresh s)
 | false=>False
def QT(E:Env)(ops:Array Oper)(Q:ai->Prop)(s:ai):Prop :=
 let l:=ops.toList
 let ck:=bU l []
 match (l.take (nW ck 0 0)).any (Oper.alone E) with
 | false=>Vd E ops Q s
 | true=>match backward l with
  | true=>xy E ops l ck (ZU ck ((List.range l.length).map (·+1))) 0 [] Q s
  | false=>False
def a0U(E:Env)(ops:Array Oper)(Q:ai->Prop)(s:ai):Prop:=QT E ops Q s
inductive az:Type 1 where
 | none
 | mk (ι:Type) (P:ι->Prop) (μ:ι->Nat) (fz dead:List Nat) (ins:ι->List (Nat×AV)) (aS:List Nat) (os:ι->List (Nat×aA)) (Zr ren:List (Nat×Nat)) (sub:ι->Nat->az)
def az.a(ι:Type)(P:ι->Prop)(μ:ι->Nat)(dead:List Nat)(ins:ι->List (Nat×AV))(aS:List Nat)(os:ι->List (Nat×aA)):az := .mk ι P μ [] dead ins aS os [] [] λ _ _ => .none
def az.b(ι:Type)(P:ι->Prop)(μ:ι->Nat)(dead:List Nat)(ins:ι->List (Nat×AV)):az := .mk ι P μ [] dead ins [] (λ _=>[]) [] [] λ _ _ => .none
def az.u(P:Prop)(dead:List Nat)(ins:List (Nat×AV))(aS:List Nat)(os:List (Nat×aA))(sub:Nat->az):az := .mk Unit (λ _=>P) (λ _=>0) [] dead (λ _=>ins) aS (λ _=>os) [] [] λ _=>sub
def cP(k:Nat)(X:az)(r:Nat->az)(z:Nat):az:=match Nat.beq z k with
 | true=>X
 | false=>r z
def bI:Nat->az:=λ _ => .none
def Code.Ew:Code->List Nat
 | .region _ ops _=>ops.toList.filterMap (·.dst)
 | .seq a b=>Code.Ew a++Code.Ew b
 | .cond _ a b=>Code.Ew a++Code.Ew b
 | .block _ c=>Code.Ew c
 | .loop c=>Code.Ew c
 | .scope c=>Code.Ew c
 | _=>[]
def Code.first:Code->Option Nat
 | .region id _ _=>some id
 | .seq a _=>Code.first a
 | .block _ c=>Code.first c
 | .loop c=>Code.first c
 | .cond _ a _=>Code.first a
 | _=>none
def Code.a8L(Λ:Nat->az)(b:Code):az:=match Code.first b with
 | some r=>Λ (r+100000)
 | none => .none
def a4Y(sl:List AV):List (Nat×AV)->List AV
 | []=>sl
 | (t,v)::r=>a4Y (sl.set t v) r
def Rw(aS:List Nat):List (Nat×aA)->List (Nat×aA)
 | []=>[]
 | (k,o)::r=>match aS.contains k with
  | true=>(k,o)::Rw aS r
  | false=>Rw aS r
def rX(s:ai)(Ew:List Nat)(ins:List (Nat×AV))(aS:List Nat)(os:List (Nat×aA)):ai :=
 { aC:=a4Y (Ew.foldl (λ l t=>l.set t .any) s.aC) ins,aK:=os++Rw aS s.aK }
def dk(ρ:List (Nat×Nat))(id:Nat):Nat:=match ah ρ id with
 | some k=>k
 | none=>id
def isRow:Option aA->Bool
 | some (.row ..)=>true
 | _=>false
def gf:Option aA->Bool
 | some (.box _)=>true
 | _=>false
def Ni:Option aA->Bool
 | some (.map _)=>true
 | _=>false
def AV.wb(ρ:List (Nat×Nat))(s t:ai)(a b:AV):Prop :=
 match b with
 | .any=>True
 | .aF v=>match a with
  | .aF u=>zD u v
  | .nil=>match v with
   | ⟨.slice _,xs⟩=>xs=[]
   | _=>False
  | _=>False
 | .nil=>match a with
  | .nil=>True
  | _=>False
 | .cZ v=>match a with
  | .cZ u=>zD u v
  | _=>False
 | .ptr id off=>match a with
  | .ptr i o=>match Nat.beq i (dk ρ id)&&Nat.beq o off&&gf (t.ah id) with
   | true=>True
   | false=>False
  | _=>False
 | .row id=>match a with
  | .row i=>match Nat.beq i (dk ρ id)&&isRow (t.ah id) with
   | true=>True
   | false=>False
  | .nil=>match isRow (t.ah id),s.ah (dk ρ id) with
   | true,Option.none=>True
   | _,_=>False
  | _=>False
 | .aw id=>match a with
  | .aw i=>match Nat.beq i (dk ρ id)&&cx (t.ah id) with
   | true=>True
   | false=>False
  | .nil=>match cx (t.ah id),s.ah (dk ρ id) with
   | true,Option.none=>True
   | _,_=>False
  | _=>False
 | .fn f=>match a with
  | .fn g=>match Nat.beq f g with
   | true=>True
   | false=>False
  | _=>False
 | .mp id=>match a with
  | .mp i=>match Nat.beq i (dk ρ id)&&Ni (t.ah id) with
   | true=>True
   | false=>False
  | _=>False
 | _=>False
def Lu(ρ:List (Nat×Nat))(s t:ai):List AV->List AV->Prop
 | [],[]=>True
 | a::Z9,b::bs=>match b with
  | .any=>Lu ρ s t Z9 bs
  | b=>AV.wb ρ s t a b/\Lu ρ s t Z9 bs
 | _,_=>False
def AV.a9x(ρ:List (Nat×Nat))(s t:ai)(a b:AV):Prop :=
 match a,b with
 | .agg Z9, .agg bs=>Lu ρ s t Z9 bs
 | a,b=>AV.wb ρ s t a b
def a1o(ρ:List (Nat×Nat))(s t:ai):List AV->List AV->Prop
 | [],[]=>True
 | a::Z9,b::bs=>match b with
  | .any=>a1o ρ s t Z9 bs
  | b=>AV.a9x ρ s t a b/\a1o ρ s t Z9 bs
 | _,_=>False
def a4p(u v:FV):Prop:=match u.Z9 v.ps v.r with
 | some F=>F=v.F
 | none=>False
def AV.fit(ρ:List (Nat×Nat))(s t:ai)(a b:AV):Prop :=
 match a,b with
 | .c9 f Z9, .c9 g bs=>match Nat.beq f g with
  | true=>a1o ρ s t Z9 bs
  | false=>False
 | .iC u, .iC v=>a4p u v
 | .agg Z9, .agg bs=>Lu ρ s t Z9 bs
 | .agg Z9, .aF v=>match zI (λ _=>none) v.τ (.agg Z9) with
  | some x=>x=v.x
  | none=>False
 | a,b=>AV.wb ρ s t a b
def C5(ρ:List (Nat×Nat))(s t:ai):List AV->List AV->Prop
 | [],[]=>True
 | a::Z9,b::bs=>match b with
  | .any=>C5 ρ s t Z9 bs
  | b=>AV.fit ρ s t a b/\C5 ρ s t Z9 bs
 | _,_=>False
def toO(x:J):nX:=⟨x.aq,x.aN,some x.M⟩
def a0I(bf:Ty)(ys:List bf.den)(τ:Ty)(xs:List τ.den):Prop :=
 match decide (τ = .st .oExpr),decide (bf = .st .expr) with
 | true,true=>zD ⟨.slice (.st .oExpr),((show Option (List J) from TV.Z9 (.slice (.st .expr)) ⟨.slice bf,ys⟩).getD []).map toO⟩ ⟨.slice τ,xs⟩
 | _,_=>zD ⟨.slice bf,ys⟩ ⟨.slice τ,xs⟩
def a3r(a b:MV):Prop:=match a.Z9 b.κ b.ε with
 | some (f,n)=>f=b.f/\n=b.n
 | none=>False
def kB(ρ:List (Nat×Nat))(s t:ai):List (Nat×aA)->Prop
 | []=>True
 | (id, .box bs)::r=>match s.ah (dk ρ id) with
  | some (.box Z9)=>Lu ρ s t Z9 bs/\kB ρ s t r
  | _=>False
 | (id, .row e τ xs)::r=>match s.ah (dk ρ id) with
  | some (.row e' bf ys)=>match Nat.beq e e' with
   | true=>zD ⟨.slice bf,ys⟩ ⟨.slice τ,xs⟩/\kB ρ s t r
   | false=>False
  | Option.none=>xs=[]/\kB ρ s t r
  | _=>False
 | (id, .aw τ xs)::r=>match s.ah (dk ρ id) with
  | some (.aw bf ys)=>a0I bf ys τ xs/\kB ρ s t r
  | Option.none=>xs=[]/\kB ρ s t r
  | _=>False
 | (id, .map m)::r=>match s.ah (dk ρ id) with
  | some (.map m')=>a3r m' m/\kB ρ s t r
  | _=>False
def Fits(ρ:List (Nat×Nat))(s t:ai):Prop :=
 match (nodupB (t.aK.map (·.1))&&nodupB (t.aK.map λ p=>dk ρ p.1))&&t.aK.all (λ p=>Nat.blt p.1 50||(Nat.ble 100 p.1||(Nat.beq (dk ρ p.1) p.1&&cx (s.ah p.1))))&&t.aK.all (λ p=>Nat.blt p.1 400000||(!gf (some p.2)||(Nat.beq (dk ρ p.1) p.1&&gf (s.ah p.1)))) with
 | true=>C5 ρ s t s.aC t.aC/\kB ρ s t t.aK
 | false=>False
def a7D(ρ:List (Nat×Nat))(a b:AV):List (Nat×Nat):=match b with
 | .aw k=>match a with
  | .aw i=>match Nat.beq i (dk ρ k) with
   | true=>[]
   | false=>[(k,i)]
  | _=>[]
 | _=>[]
def a3I(ρ:List (Nat×Nat)):List AV->List AV->List (Nat×Nat)
 | a::Z9,b::bs=>a7D ρ a b++a3I ρ Z9 bs
 | _,_=>[]
def b0U(ρ:List (Nat×Nat))(a b:AV):List (Nat×Nat):=match b with
 | .agg bs=>match a with
  | .agg Z9=>a3I ρ Z9 bs
  | _=>[]
 | b=>a7D ρ a b
def Xd(ρ:List (Nat×Nat)):List AV->List AV->List (Nat×Nat)
 | a::Z9,b::bs=>b0U ρ a b++Xd ρ Z9 bs
 | _,_=>[]
def J3(ρ:List (Nat×Nat))(s:ai):List (Nat×aA)->List (Nat×Nat)
 | []=>[]
 | (id, .box bs)::r=>match s.ah (dk ρ id) with
  | some (.box Z9)=>a3I ρ Z9 bs++J3 ρ s r
  | _=>J3 ρ s r
 | _::r=>J3 ρ s r
def Z3:List (Nat×Nat)->(List (Nat×Nat)->Prop)->Prop
 | [],K=>K []
 | (a,b)::r,K=>Z3 r λ r'=>K ((a,b)::r')
def O5:∀ {l:List (Nat×Nat)} {K:List (Nat×Nat)->Prop},Z3 l K->K l
 | [],_,h=>h
 | (a,b)::r,K,h=>O5 (l:=r) (K:=λ r'=>K ((a,b)::r')) h
def US(ρ:List (Nat×Nat))(s t:ai):Prop:=Z3 (J3 ρ s t.aK++Xd ρ s.aC t.aC) λ r=>Fits (r++ρ) s t
def US.ex{ρ:List (Nat×Nat)}{s t:ai}(h:US ρ s t):∃ r,Fits (r++ρ) s t:=⟨_,O5 h⟩
def s5(E:Env):Code->(Nat->az)->Nat->(Exit->ai->Prop)->ai->Prop
 | .skip,_,_,Q,s=>Q .normal s
 | .region _ ops draw,_,_,Q,s=>match draw with
  | true=>a0U E ops (Q .normal) s
  | false=>ft E ops ops.toList [] (Q .normal) s
 | .seq a b,Λ,cur,Q,s=>match Code.a8L Λ b with
  | .none=>s5 E a Λ cur (λ e s'=>match e with
   | .normal=>s5 E b Λ cur Q s'
   | e=>Q e s') s
  | .mk ι P _ fz dead ins aS os Zr _ sub =>
   let Ew:=dead++Code.Ew a;s5 E a Λ cur (λ e s'=>match e with
    | .normal=>∃ j:ι,P j/\US Zr (fz.foldl ai.freeze s') (rX s Ew (ins j) aS (os j))
    | e=>Q e s') s /\
   ∀ i:ι,P i->s5 E b (sub i) cur Q (rX s Ew (ins i) aS (os i))
 | .cond c a b,Λ,cur,Q,s=>match s.eval c with
  | .aF ⟨.bool,t⟩=>(t=true->s5 E a Λ cur Q s)/\(t=false->s5 E b Λ cur Q s)
  | _=>False
 | .block id c,Λ,_,Q,s=>s5 E c Λ id (λ e s'=>match e with
  | .exit i=>match Nat.beq i id with
   | true=>Q .normal s'
   | false=>Q (.exit i) s'
  | e=>Q e s') s
 | .loop c,Λ,cur,Q,s=>match Λ cur with
  | .none=>False
  | .mk ι P μ fz dead ins aS os Zr ren sub =>
   let Ew:=dead++Code.Ew c;(∃ i:ι,P i/\US Zr (fz.foldl ai.freeze s) (rX s Ew (ins i) aS (os i))) /\
   ∀ i:ι,P i->s5 E c (sub i) cur (λ e s'=>match e with
    | .normal=>∃ j:ι,P j/\μ j<μ i/\US ren (fz.foldl ai.freeze s') (rX s Ew (ins j) aS (os j))
    | e=>Q e s') (rX s Ew (ins i) aS (os i))
 | .exit id,_,_,Q,s=>Q (.exit id) s
 | .ret,_,_,Q,s=>Q .ret s
 | .label _,_,_,Q,s=>Q .normal s
 | _,_,_,_,_=>False
def Si(E:Env)(s:ai):List ResultVar->List TypeId->Option (List TV)
 | [],[]=>some []
 | r::rs,T::Ts=>match ah E.ty T with
  | some (τ,_)=>match (match r with
    | .tmp t=>zI (Qg s.ah) τ (s.eval (.tmp t))
    | .cell a t=>match Nat.beq t T with
     | true=>deref (Qg s.ah) τ (s.eval (.tmp a))
     | false=>none) with
   | some x=>match Si E s rs Ts with
    | some l=>some (⟨τ,x⟩::l)
    | none=>none
   | none=>none
  | none=>none
 | _,_=>none
def U5:Arg->AV
 | .val v => .aF v
 | .ref v => .cZ v
 | .fn f => .fn f
 | .c9 v => .iC v
 | .own _ => .any
 | .box _ => .any
def dP(fn:Func)(args:List Arg):ai :=
 { aC:=args.map U5++List.replicate (fn.ntmps - args.length) .any,aK:=[] }
def sC:Nat->List Arg->ai->ai
 | _,[],s=>s
 | p, .own v::r,s=>sC (p+1) r { aC:=s.aC.set p (eZ (1000000+100 * p) v),aK:=bZ (1000000+100 * p) v.cells++s.aK }
 | p,_::r,s=>sC (p+1) r s
def UN(fn:Func)(args:List Arg):ai:=sC 0 args (dP fn args)
def yd(E:Env)(fn:Func)(post:List TV->Prop)(e:Exit)(s:ai):Prop :=
 match e with
 | .ret | .normal=>match Si E s fn.results.toList fn.resultTypes.toList with
  | some vs=>post vs
  | none=>False
 | _=>False
def xn:List TV->List TV->Prop
 | [],[]=>True
 | [v],[u]=>zD v u
 | v::vs,u::us=>zD v u/\xn vs us
 | _,_=>False
end
def cd(w:World)(b o:Nat)(cs:List Value):Prop:=∀ j v,cs[j]?=some v->w.cell? ⟨b,o+j,none⟩=some v
def D.size:D->Nat
 | .agg ds=>ds.length
 | _=>1
mutual
def Rd(w:World)(S:Nat->Prop):D->List Value->Prop
 | .int k n,cs=>cs=[.int k n]/\k.min<=n/\n<=k.max
 | .bool b,cs=>cs=[.bool b]
 | .str s,cs=>∃ x:ByteArray,cs=[.string x]/\x.data.toList=s/\x.size<=140737488355328
 | .slice _ xs,cs=>∃ a cap,cs=[.slice a xs.length cap]/\xs.length<=cap/\cap<=maxLen/\xs.length<=140737488355328/\(xs=[]\/∃ b o,a=some ⟨b,o,none⟩/\S b/\dq w S xs b o)
 | .agg ds,cs=>dh w S ds cs
 | .hole,cs=>∃ a n m,cs=[.slice a n m]
 | .ptr,cs=>∃ p,cs=[.pointer p]
def dh(w:World)(S:Nat->Prop):List D->List Value->Prop
 | [],cs=>cs=[]
 | d::ds,cs=>∃ v r,cs=v::r/\Rd w S d [v]/\dh w S ds r
def dq(w:World)(S:Nat->Prop):List D->Nat->Nat->Prop
 | [],_,_=>True
 | d::ds,b,o=>(∃ cs,cs.length=d.size/\Rd w S d cs/\cd w b o cs)/\dq w S ds b (o+d.size)
end
def cd.aS{w w':World}{b o:Nat}{cs:List Value}(h:cd w b o cs)(hb:w'.heap[b]?=w.heap[b]?):cd w' b o cs :=
 λ j v hj=>by rw[<-h j v hj];exact b6b (a:=⟨b,o+j,none⟩) hb
mutual
def Rd.aS{w w':World}{S S':Nat->Prop}(hS:∀ b,S b->S' b)(hw:∀ b,S b->w'.heap[b]?=w.heap[b]?):∀ (d:D) {cs:List Value},Rd w S d cs->Rd w' S' d cs
 | .int _ _,_,h=>h
 | .bool _,_,h=>h
 | .str _,_,h=>h
 | .slice _ xs,_,h=>by
  obtain⟨a,cap,h1,h2,h3,h4,h5⟩:=h;refine⟨a,cap,h1,h2,h3,h4,h5.imp id ?_⟩;rintro⟨b,o,ha,hb,hr⟩;exact⟨b,o,ha,hS b hb,dq.aS hS hw xs b o hb hr⟩
 | .agg ds,_,h=>dh.aS hS hw ds h
 | .hole,_,h=>h
 | .ptr,_,h=>h
def dh.aS{w w':World}{S S':Nat->Prop}(hS:∀ b,S b->S' b)(hw:∀ b,S b->w'.heap[b]?=w.heap[b]?):∀ (ds:List D) {cs:List Value},dh w S ds cs->dh w' S' ds cs
 | [],_,h=>h
 | d::ds,_,h=>by
  obtain⟨v,r,h1,h2,h3⟩:=h;exact⟨v,r,h1,Rd.aS hS hw d h2,dh.aS hS hw ds h3⟩
def dq.aS{w w':World}{S S':Nat->Prop}(hS:∀ b,S b->S' b)(hw:∀ b,S b->w'.heap[b]?=w.heap[b]?):∀ (ds:List D) (b o:Nat),S b->dq w S ds b o->dq w' S' ds b o
 | [],_,_,_,_=>trivial
 | d::ds,b,o,hb,h=>by
  obtain⟨⟨cs,h1,h2,h3⟩,h4⟩:=h;exact⟨⟨cs,h1,Rd.aS hS hw d h2,h3.aS (hw b hb)⟩,dq.aS hS hw ds b _ hb h4⟩
end
def dh.length{w:World}{S:Nat->Prop}:∀ (ds:List D) {cs:List Value},dh w S ds cs->cs.length=ds.length
 | [],_,h=>by rw[show _=[] from h];rfl
 | d::ds,_,h=>by
  obtain⟨v,r,rfl,_,h3⟩:=h;simp[dh.length ds h3]
def Rd.length{w:World}{S:Nat->Prop}(d:D){cs:List Value}(h:Rd w S d cs):cs.length=d.size:=by
 cases d with
 | int k n=>rw[h.1];rfl
 | bool b=>rw[show cs=_ from h];rfl
 | str s=>obtain⟨x,h,_⟩:=h;rw[h];rfl
 | slice n xs=>obtain⟨a,cap,h,_⟩:=h;rw[h];rfl
 | agg ds=>exact dh.length ds h
 | hole=>obtain⟨a,n,m,h⟩:=h;rw[h];rfl
 | ptr=>obtain⟨p,h⟩:=h;rw[h];rfl
def Ty.cM(t:Ty)(x:t.den):(t.aP x).size=t.size:=by
 cases t with
 | st s=>simp[Ty.aP,aQ.ct,D.size,Ty.size,aQ.iS]
 | mv t=>cases (show Option (List t.den) from x)<;>rfl
 | _=>rfl
def dq.at_{w:World}{S:Nat->Prop}{n:Nat}:∀ (ds:List D) (b o:Nat),dq w S ds b o->(∀ d∈ds,d.size=n)->∀ i d,ds[i]?=some d ->
  ∃ cs,cs.length=n/\Rd w S d cs/\cd w b (o+i * n) cs
 | [],_,_,_,_,i,d,h=>by simp at h
 | e::ds,b,o,h,hn,0,d,hi=>by
  obtain⟨⟨cs,h1,h2,h3⟩,_⟩:=h;simp at hi;subst hi;exact⟨cs,by rw[h1];exact hn _ (by simp),h2,by simpa using h3⟩
 | e::ds,b,o,h,hn,i+1,d,hi=>by
  obtain⟨_,h4⟩:=h;rw[hn e (by simp)] at h4;obtain⟨cs,h1,h2,h3⟩:=dq.at_ ds b (o+n) h4 (λ d hd=>hn d (by simp[hd])) i d (by simpa using hi);exact⟨cs,h1,h2,by rw[show o+(i+1) * n=o+n+i * n by rw[Nat.add_mul];omega];exact h3⟩
def dq.a6I{w:World}{S:Nat->Prop}{n:Nat}:∀ (k:Nat) (ds:List D) (b o:Nat),dq w S ds b o->(∀ d∈ds,d.size=n)->dq w S (ds.drop k) b (o+k * n)
 | 0,ds,b,o,h,_=>by simpa using h
 | k+1,[],b,o,h,_=>by simp[dq]
 | k+1,d::ds,b,o,h,hn=>by
  have:=dq.a6I k ds b (o+n) (by have:=h.2;rwa [hn d (by simp)] at this) (λ d hd=>hn d (by simp[hd]));rw[show o+(k+1) * n=o+n+k * n by rw[b4O];omega];exact this
def dq.a8c{w:World}{S:Nat->Prop}:∀ (k:Nat) (ds:List D) (b o:Nat),dq w S ds b o->dq w S (ds.take k) b o
 | 0,ds,b,o,h=>by simp[dq]
 | k+1,[],b,o,h=>by simp[dq]
 | k+1,d::ds,b,o,h=>⟨h.1,dq.a8c k ds b _ h.2⟩
def dT(w:World)(S:Nat->Prop):List D->List Value->Prop
 | [],l=>l=[]
 | d::ds,l=>∃ c r,l=c++r/\Rd w S d c/\dT w S ds r
def dT.aS{w w':World}{S S':Nat->Prop}(hS:∀ b,S b->S' b)(hw:∀ b,S b->w'.heap[b]?=w.heap[b]?):∀ (ds:List D) {l:List Value},dT w S ds l->dT w' S' ds l
 | [],_,h=>h
 | d::ds,_,h=>by
  obtain⟨c,r,h1,h2,h3⟩:=h;exact⟨c,r,h1,Rd.aS hS hw d h2,dT.aS hS hw ds h3⟩
def dT.append{w:World}{S:Nat->Prop}:∀ (ds es:List D) {l m:List Value},dT w S ds l->dT w S es m->dT w S (ds++es) (l++m)
 | [],_,_,_,h,k=>by rw[show _=[] from h];simpa using k
 | d::ds,es,_,m,h,k=>by
  obtain⟨c,r,rfl,h2,h3⟩:=h;exact⟨c,r++m,by simp,h2,dT.append ds es h3 k⟩
def dT.length{w:World}{S:Nat->Prop}{n:Nat}:∀ (ds:List D) {l:List Value},dT w S ds l->(∀ d∈ds,d.size=n)->l.length=ds.length * n
 | [],_,h,_=>by rw[show _=[] from h];simp
 | d::ds,_,h,hn=>by
  obtain⟨c,r,rfl,h2,h3⟩:=h;rw[b3J,Rd.length d h2,hn d (by simp),dT.length ds h3 (λ d hd=>hn d (by simp[hd])),b3G,b4O];omega
def dT.row{w:World}{S:Nat->Prop}:∀ (ds:List D) {l:List Value} (b o:Nat),dT w S ds l->cd w b o l->dq w S ds b o
 | [],_,_,_,_,_=>trivial
 | d::ds,_,b,o,h,hc=>by
  obtain⟨c,r,rfl,h2,h3⟩:=h;refine⟨⟨c,Rd.length d h2,h2,λ j v hj=>hc j v ?_⟩,dT.row ds b _ h3 λ j v hj=>?_⟩
  .rw[b5l]
   .exact hj
   .exact (b4p.1 hj).1
  .have:=hc (c.length+j) v (by rw[List.getElem?_append_right (by omega)];simpa using hj);rwa [Rd.length d h2,<-Nat.add_assoc] at this
def dq.cells{w:World}{S:Nat->Prop}:∀ (ds:List D) (b o:Nat),dq w S ds b o->∃ l,dT w S ds l/\cd w b o l
 | [],_,_,_=>⟨[],rfl,λ j v h=>by simp at h⟩
 | d::ds,b,o,h=>by
  obtain⟨⟨c,h1,h2,h3⟩,h4⟩:=h;obtain⟨r,h5,h6⟩:=dq.cells ds b _ h4;refine⟨c++r,⟨c,r,rfl,h2,h5⟩,λ j v hj=>?_⟩;rcases b4y j c.length with bK|hge
  .exact h3 j v (by rwa [b5l bK] at hj)
  .rw[b4V hge] at hj;have:=h6 (j - c.length) v hj;rwa [<-h1,show o+c.length+(j - c.length)=o+j by omega] at this
def dT.at_{w:World}{S:Nat->Prop}{n:Nat}:∀ (ds:List D) {l:List Value},dT w S ds l->(∀ d∈ds,d.size=n)->∀ i d,ds[i]?=some d->Rd w S d ((l.drop (i * n)).take n)
 | [],_,_,_,i,d,h=>by simp at h
 | e::ds,_,h,hn,0,d,hi=>by
  obtain⟨c,r,rfl,h2,h3⟩:=h;simp at hi;subst hi;have:c.length=n:=by rw[Rd.length _ h2];exact hn _ (by simp)
  simpa [<-this] using h2
 | e::ds,_,h,hn,i+1,d,hi=>by
  obtain⟨c,r,rfl,h2,h3⟩:=h;have hc:c.length=n:=by rw[Rd.length _ h2];exact hn _ (by simp)
  have:=dT.at_ ds h3 (λ d hd=>hn d (by simp[hd])) i d (by simpa using hi);have h0:List.drop (n+i * n) c=[]:=List.drop_eq_nil_of_le (by omega);rw[show (i+1) * n=n+i * n by rw[Nat.add_mul];omega,List.drop_append,h0,List.nil_append,show n+i * n - c.length=i * n by omega];exact this
def uY:Value->Bool
 | .int .. | .bool _ | .string _ | .slice .. | .pointer _=>true
 | _=>false
def D.leaf:D->Bool
 | .agg _=>false
 | _=>true
def Rd.uY{w:World}{S:Nat->Prop}{d:D}(hd:d.leaf=true){cs:List Value}(h:Rd w S d cs):∃ v,cs=[v]/\YtmjfpcajohhbeaaGreatDoor.uY v=true:=by
 cases d with
 | int k n=>exact⟨_,h.1,rfl⟩
 | bool b=>exact⟨_,h,rfl⟩
 | str s=>obtain⟨x,h,_⟩:=h;exact⟨_,h,rfl⟩
 | slice n xs=>obtain⟨a,cap,h,_⟩:=h;exact⟨_,h,rfl⟩
 | agg ds=>cases hd
 | hole=>obtain⟨a,n,m,h⟩:=h;exact⟨_,h,rfl⟩
 | ptr=>obtain⟨p,h⟩:=h;exact⟨_,h,rfl⟩
def Bf{v:Value}(h:YtmjfpcajohhbeaaGreatDoor.uY v=true):v.oneCell'=true:=by cases v<;>first|rfl|cases h
def PY{v:Value}(h:YtmjfpcajohhbeaaGreatDoor.uY v=true):v.cells = #[v]:=by cases v<;>first|rfl|cases h
def R1{α:Type}(n:Nat)(f:α->D)(o:Option (List α)):(mvD n f o).leaf=true:=by cases o<;>rfl
def aQ.po(s:aQ)(x:s.den):∀ v∈s.cells x,v.aP.leaf=true:=by
 cases s<;>simp[aQ.cells,TV.aP,Ty.aP,D.leaf]<;>exact R1 _ _ _
mutual
def Ow(w:World):D->List Value->List Nat->Prop
 | .int k n,cs,fp=>(cs=[.int k n]/\k.min<=n/\n<=k.max)/\fp=[]
 | .bool b,cs,fp=>cs=[.bool b]/\fp=[]
 | .str s,cs,fp=>(∃ x:ByteArray,cs=[.string x]/\x.data.toList=s/\x.size<=140737488355328)/\fp=[]
 | .slice n xs,cs,fp=>∃ a cap,cs=[.slice a xs.length cap]/\xs.length<=cap/\cap<=maxLen/\xs.length<=140737488355328 /\
   ((xs=[]/\(a=none/\cap=0)/\fp=[])\/∃ b f l t,a=some ⟨b,0,none⟩/\fp=b::f/\w.heap[b]?=some (.cells l.toArray t (0,0))/\l.length=cap * n/\bQ w xs l f)
 | .agg ds,cs,fp=>cT w ds cs fp
 | .hole,cs,fp=>(∃ a n m,cs=[.slice a n m])/\fp=[]
 | .ptr,cs,fp=>(∃ p,cs=[.pointer p])/\fp=[]
def cT(w:World):List D->List Value->List Nat->Prop
 | [],cs,fp=>cs=[]/\fp=[]
 | d::ds,cs,fp=>∃ v r f1 f2,cs=v::r/\fp=f1++f2/\Ow w d [v] f1/\cT w ds r f2
def bQ(w:World):List D->List Value->List Nat->Prop
 | [],_,fp=>fp=[]
 | d::ds,l,fp=>∃ c r f1 f2,l=c++r/\fp=f1++f2/\Ow w d c f1/\bQ w ds r f2
end
def cT.length{w:World}:∀ (ds:List D) {cs:List Value} {fp:List Nat},cT w ds cs fp->cs.length=ds.length
 | [],_,_,h=>by rw[h.1];rfl
 | d::ds,_,_,h=>by
  obtain⟨v,r,f1,f2,rfl,_,_,h4⟩:=h;simp[cT.length ds h4]
def Ow.length{w:World}(d:D){cs:List Value}{fp:List Nat}(h:Ow w d cs fp):cs.length=d.size:=by
 cases d with
 | int k n=>rw[h.1.1];rfl
 | bool b=>rw[h.1];rfl
 | str s=>obtain⟨⟨x,h,_⟩,_⟩:=h;rw[h];rfl
 | slice n xs=>obtain⟨a,cap,h,_⟩:=h;rw[h];rfl
 | agg ds=>exact cT.length ds h
 | hole=>obtain⟨⟨a,n,m,h⟩,_⟩:=h;rw[h];rfl
 | ptr=>obtain⟨⟨p,h⟩,_⟩:=h;rw[h];rfl
def H5{w:World}{b:Nat}{p c r:List Value}{t:TypeId}(h:w.heap[b]?=some (.cells (p++(c++r)).toArray t (0,0))):cd w b p.length c:=by
 intro j v hj;have hl:j<c.length:=(b4p.1 hj).1;have h2:(p++(c++r))[p.length+j]?=some v:=by
  rw[b4V (by omega),b5Q,b5l hl];exact hj
 simp[World.cell?,h,h2]
mutual
def Ow.rd{w:World}{S:Nat->Prop}:∀ (d:D) {cs:List Value} {fp:List Nat},Ow w d cs fp->(∀ b∈fp,S b)->Rd w S d cs
 | .int _ _,_,_,h,_=>h.1
 | .bool _,_,_,h,_=>h.1
 | .str _,_,_,h,_=>h.1
 | .slice n xs,_,_,h,hS=>by
  obtain⟨a,cap,h1,h2,h3,h4,h5⟩:=h;refine⟨a,cap,h1,h2,h3,h4,h5.imp And.left ?_⟩;rintro⟨b,f,l,t,rfl,rfl,hb,_,hr⟩;exact⟨b,0,rfl,hS b (by simp),bQ.rd xs (p:=[]) (by simpa using hb) hr (λ b hb=>hS b (by simp[hb]))⟩
 | .agg ds,_,_,h,hS=>cT.rd ds h hS
 | .hole,_,_,h,_=>h.1
 | .ptr,_,_,h,_=>h.1
def cT.rd{w:World}{S:Nat->Prop}:∀ (ds:List D) {cs:List Value} {fp:List Nat},cT w ds cs fp->(∀ b∈fp,S b)->dh w S ds cs
 | [],_,_,h,_=>h.1
 | d::ds,_,_,h,hS=>by
  obtain⟨v,r,f1,f2,h1,rfl,h3,h4⟩:=h;exact⟨v,r,h1,Ow.rd d h3 λ b hb=>hS b (by simp[hb]),cT.rd ds h4 λ b hb=>hS b (by simp[hb])⟩
def bQ.rd{w:World}{S:Nat->Prop}{b:Nat}{t:TypeId}:∀ (ds:List D) {p l:List Value} {fp:List Nat},w.heap[b]?=some (.cells (p++l).toArray t (0,0))->bQ w ds l fp->(∀ b∈fp,S b)->dq w S ds b p.length
 | [],_,_,_,_,_,_=>trivial
 | d::ds,p,_,_,hb,h,hS=>by
  obtain⟨c,r,f1,f2,rfl,rfl,h3,h4⟩:=h;have hl:=Ow.length d h3;refine⟨⟨c,hl,Ow.rd d h3 λ b hb=>hS b (by simp[hb]),H5 hb⟩,?_⟩;have:=bQ.rd ds (p:=p++c) (l:=r) (by simpa using hb) h4 (λ b hb=>hS b (by simp[hb]));rw[<-hl];simpa using this
end
mutual
def Ow.aS{w w':World}:∀ (d:D) {cs:List Value} {fp:List Nat},Ow w d cs fp->(∀ b∈fp,w'.heap[b]?=w.heap[b]?)->Ow w' d cs fp
 | .int _ _,_,_,h,_=>h
 | .bool _,_,_,h,_=>h
 | .str _,_,_,h,_=>h
 | .slice n xs,_,_,h,hw=>by
  obtain⟨a,cap,h1,h2,h3,h4,h5⟩:=h;refine⟨a,cap,h1,h2,h3,h4,h5.imp id ?_⟩;rintro⟨b,f,l,t,rfl,rfl,hb,hc,hr⟩;exact⟨b,f,l,t,rfl,rfl,by rw[hw b (by simp)];exact hb,hc,bQ.aS xs hr λ b hb=>hw b (by simp[hb])⟩
 | .agg ds,_,_,h,hw=>cT.aS ds h hw
 | .hole,_,_,h,_=>h
 | .ptr,_,_,h,_=>h
def cT.aS{w w':World}:∀ (ds:List D) {cs:List Value} {fp:List Nat},cT w ds cs fp->(∀ b∈fp,w'.heap[b]?=w.heap[b]?)->cT w' ds cs fp
 | [],_,_,h,_=>h
 | d::ds,_,_,h,hw=>by
  obtain⟨v,r,f1,f2,h1,rfl,h3,h4⟩:=h;exact⟨v,r,f1,f2,h1,rfl,Ow.aS d h3 λ b hb=>hw b (by simp[hb]),cT.aS ds h4 λ b hb=>hw b (by simp[hb])⟩
def bQ.aS{w w':World}:∀ (ds:List D) {l:List Value} {fp:List Nat},bQ w ds l fp->(∀ b∈fp,w'.heap[b]?=w.heap[b]?)->bQ w' ds l fp
 | [],_,_,h,_=>h
 | d::ds,_,_,h,hw=>by
  obtain⟨c,r,f1,f2,h1,rfl,h3,h4⟩:=h;exact⟨c,r,f1,f2,h1,rfl,Ow.aS d h3 λ b hb=>hw b (by simp[hb]),bQ.aS ds h4 λ b hb=>hw b (by simp[hb])⟩
end
mutual
def D.light:D->Bool
 | .slice .. => false
 | .agg ds=>D.JZ ds
 | _=>true
def D.JZ:List D->Bool
 | []=>true
 | d::ds=>d.light&&D.JZ ds
end
mutual
def Ow.ep{w:World}{S:Nat->Prop}:∀ (d:D) {cs:List Value},d.light=true->Rd w S d cs->Ow w d cs []
 | .int _ _,_,_,h=>⟨h,rfl⟩
 | .bool _,_,_,h=>⟨h,rfl⟩
 | .str _,_,_,h=>⟨h,rfl⟩
 | .slice n xs,_,hl,h=>by
  obtain⟨a,cap,h1,h2,h3,h4,h5⟩:=h;cases hl
 | .agg ds,_,hl,h=>cT.ep ds hl h
 | .hole,_,_,h=>⟨h,rfl⟩
 | .ptr,_,_,h=>⟨h,rfl⟩
def cT.ep{w:World}{S:Nat->Prop}:∀ (ds:List D) {cs:List Value},D.JZ ds=true->dh w S ds cs->cT w ds cs []
 | [],_,_,h=>⟨h,rfl⟩
 | d::ds,_,hl,h=>by
  obtain⟨v,r,h1,h2,h3⟩:=h;simp only[D.JZ,b3A] at hl;exact⟨v,r,[],[],h1,rfl,Ow.ep d hl.1 h2,cT.ep ds hl.2 h3⟩
end
def bQ.ep{w:World}{S:Nat->Prop}:∀ (ds:List D) {l m:List Value},(∀ d∈ds,d.light=true)->dT w S ds l->bQ w ds (l++m) []
 | [],_,_,_,_=>rfl
 | d::ds,_,m,hl,h=>by
  obtain⟨c,r,rfl,h2,h3⟩:=h;exact⟨c,r++m,[],[],by simp,rfl,Ow.ep d (hl d (by simp)) h2,bQ.ep ds (λ d hd=>hl d (by simp[hd])) h3⟩
def Lr{α:Type}(c r:List α)(k:Nat):(c++r).drop (c.length+k)=r.drop k:=by
 rw[<-b5j,b5M]
def Cl{α:Type}(c r:List α)(k:Nat):(c++r).take (c.length+k)=c++r.take k:=by
 rw[b6Y,b3U (by omega),b5Q]
def bQ.split{w:World}{n:Nat}:∀ (ds:List D) {l:List Value} {fp:List Nat} (i:Nat) (d:D),bQ w ds l fp->(∀ d∈ds,d.size=n)->ds[i]?=some d ->
  ∃ f0 f1 f2,fp=f0++f1++f2/\i * n+n<=l.length/\Ow w d ((l.drop (i * n)).take n) f1 /\
   ∀ (w':World) (d':D) (c':List Value) (iB:List Nat),(∀ b∈f0++f2,w'.heap[b]?=w.heap[b]?)->c'.length=n->Ow w' d' c' iB->bQ w' (ds.set i d') (l.take (i * n)++c'++l.drop (i * n+n)) (f0++iB++f2)
 | [],_,_,_,_,_,_,h=>by simp at h
 | e::ds,l,fp,0,d,h,hn,hi=>by
  obtain⟨c,r,f1,f2,rfl,rfl,h3,h4⟩:=h;simp at hi;subst hi;have hc:c.length=n:=by rw[Ow.length _ h3];exact hn _ (by simp)
  refine⟨[],f1,f2,by simp,by simp;omega,?_,λ w' d' c' iB hw Tw Hk=>?_⟩
  .simp only[b6v,b5F];rw[<-hc,b5G];exact h3
  .simp only[b6v,b4z,b3Y,b5b,b6G];rw[<-hc,b5M];exact⟨c',r,iB,f2,rfl,rfl,Hk,bQ.aS ds h4 λ b hb=>hw b (by simp[hb])⟩
 | e::ds,l,fp,i+1,d,h,hn,hi=>by
  obtain⟨c,r,g1,g2,rfl,rfl,h3,h4⟩:=h;have hc:c.length=n:=by rw[Ow.length _ h3];exact hn _ (by simp)
  obtain⟨f0,f1,f2,rfl,hlen,k1,k2⟩:=bQ.split ds i d h4 (λ d hd=>hn d (by simp[hd])) (by simpa using hi);have e1:(i+1) * n=c.length+i * n:=by rw[hc,Nat.add_mul];omega
  have e2:(i+1) * n+n=c.length+(i * n+n):=by omega
  refine⟨g1++f0,f1,f2,by simp,by simp;omega,?_,λ w' d' c' iB hw Tw Hk=>?_⟩
  .rw[e1,Lr];exact k1
  .rw[e1,show c.length+i * n+n=c.length+(i * n+n) by omega,Cl,Lr];have:=k2 w' d' c' iB (λ b hb=>hw b (by simp at hb ⊢;rcases hb with hb|hb<;>simp[hb])) Tw Hk;rw[show (e::ds).set (i+1) d'=e::ds.set i d' from rfl];exact⟨c,r.take (i * n)++c'++r.drop (i * n+n),g1,f0++iB++f2,by simp,by simp,Ow.aS e h3 λ b hb=>hw b (by simp[hb]),this⟩
open Go.MapKept
def wM(τ:Ty)(x:τ.den)(v:Value):Prop:=∀ (w:World) (S:Nat->Prop),Rd w S (τ.aP x) [v]
theorem wM.of{τ:Ty}(jr:τ.key=true){x:τ.den}{v:Value}{w:World}{S:Nat->Prop}(h:Rd w S (τ.aP x) [v]):wM τ x v:=by
 intro w' S';cases τ with
 | int k=>exact h
 | bool=>exact h
 | str=>exact h
 | _=>cases jr
theorem wM.val{τ:Ty}(jr:τ.key=true){x y:τ.den}{v:Value}(h:wM τ x v)(k:wM τ y v)(w:World):x=y:=by
 have h:=h w (λ _=>False);have k:=k w (λ _=>False);cases τ with
 | int q =>
  simp only[Ty.aP,Rd,List.cons.injEq,and_true] at h k;obtain⟨rfl,_⟩:=h;exact (by simpa using k.1)
 | bool =>
  simp only[Ty.aP,Rd,List.cons.injEq,and_true] at h k;subst h;simpa using k
 | str =>
  obtain⟨a,h1,h2,_⟩:=h;obtain⟨b,k1,k2,_⟩:=k;simp only[b3F,b3L] at h1 k1;subst h1;simp only[Value.string.injEq] at k1;subst k1;exact h2.symm.trans k2
 | _=>cases jr
theorem wM.inj{τ:Ty}(jr:τ.key=true){x:τ.den}{v u:Value}(h:wM τ x v)(k:wM τ x u)(w:World):v=u:=by
 have h:=h w (λ _=>False);have k:=k w (λ _=>False);cases τ with
 | int q =>
  simp only[Ty.aP,Rd,b3F,b3L] at h k;exact h.1.trans k.1.symm
 | bool =>
  simp only[Ty.aP,Rd,b3F,b3L] at h k;exact h.trans k.symm
 | str =>
  obtain⟨⟨⟨a⟩⟩,h1,h2,_⟩:=h;obtain⟨⟨⟨b⟩⟩,k1,k2,_⟩:=k;simp only[b3F,b3L] at h1 k1;simp only at h2 k2;rw[h1,k1,h2,k2]
 | _=>cases jr
def descOf:Ty->TypeDesc
 | .int k => .int k
 | .str => .string
 | _ => .bool
theorem wM.isKey{τ:Ty}(jr:τ.key=true){x:τ.den}{v:Value}(h:wM τ x v)(w:World):IsKey (descOf τ) v:=by
 have h:=h w (λ _=>False);cases τ with
 | int q =>
  simp only[Ty.aP,Rd,b3F,b3L] at h;obtain⟨rfl,_⟩:=h;rfl
 | bool =>
  simp only[Ty.aP,Rd,b3F,b3L] at h;subst h;trivial
 | str =>
  obtain⟨a,h1,h2,_⟩:=h;simp only[b3F,b3L] at h1;subst h1;trivial
 | _=>cases jr
structure Oa(m:MV)(es:Array MapEntry):Prop where
 sk:m.κ.key=true
 se:m.ε.key=true
 len:es.size=m.n
 small:m.n<=1000000000
 nd:es.toList.Pairwise λ x y=>x.key≠y.key
 ent:∀ e∈es.toList,∃ k v,wM m.κ k e.key/\wM m.ε v e.val/\m.f k=some v
 all:∀ k v,m.f k=some v->∃ e∈es.toList,wM m.κ k e.key
section
variable {P:Program} {w:World} {m:MV} {es:Array MapEntry} {clock b:Nat} {T kT eT:TypeId}
theorem Oa.found(h:Oa m es){k:m.κ.den}{v:Value}(hv:wM m.κ k v)(w:World) :
  (Instr.findNow (descOf m.κ) v es.toList 0=some none/\(∀ e∈es.toList,e.key≠v)/\m.f k=none) \/
  ∃ j e x,Instr.findNow (descOf m.κ) v es.toList 0=some (some (j,e.val))/\es.toList[j]?=some e/\e.key=v/\m.f k=some x/\wM m.ε x e.val:=by
 have hk:∀ e∈es.toList,IsKey (descOf m.κ) e.key:=λ e he=>by
  obtain⟨k',v',h1,_⟩:=h.ent e he;exact h1.isKey h.sk w
 rcases findNow_spec (hv.isKey h.sk w) es.toList 0 hk with ⟨h1,h2⟩|⟨j,e,h1,h2,h3⟩
 .refine .inl ⟨h1,h2,?_⟩;cases hf:m.f k with
  | none=>rfl
  | some x =>
   obtain⟨e,he,hke⟩:=h.all k x hf;exact absurd (hke.inj h.sk hv w) (h2 e he)
 .obtain⟨k',x,k1,k2,k3⟩:=h.ent e (List.mem_of_getElem? h2);have:k'=k:=k1.val h.sk (h3 ▸ hv) w;subst this;exact .inr ⟨j,e,x,by simpa using h1,h2,h3,k3,k2⟩
theorem Oa.ah(h:Oa m es)(hT:P.underlying T=some (.map kT eT))(hk:P.underlying kT=some (descOf m.κ))(hb:w.heap[b]?=some (.map es clock)){z:Value}(hz:(zeroValue eT).run P w = .ok z w)(hzr:wM m.ε m.ε.zero z)
  {k:m.κ.den} {v:Value} (hv:wM m.κ k v) (c:Bool):∃ u,wM m.ε ((m.f k).getD m.ε.zero) u/\(Instr.lookup T (.map (some b)) v c).run P w = .ok (if c then .tuple #[u, .bool (m.f k).isSome] else u) w:=by
 rcases h.found hv w with ⟨h1,h2,h3⟩|⟨j,e,x,h1,h2,h3,h4,h5⟩
 .refine⟨z,by rw[h3];exact hzr,?_⟩;rw[h3];simp[Instr.lookup,b4v hT,b5X hb,run_checkKey hk (hv.isKey h.sk w),run_findKey hk h1,hz,Result.andThen]
 .refine⟨e.val,by rw[h4];exact h5,?_⟩;rw[h4];simp[Instr.lookup,b4v hT,b5X hb,run_checkKey hk (hv.isKey h.sk w),run_findKey hk h1,Result.andThen]
theorem WU{α β:Type}(f:α->Option β)(k:α)(v:β):LJ f k v k=some v:=by simp[LJ]
theorem Bh{α β:Type}(f:α->Option β)(k:α)(v:β){x:α}(h:x≠k):LJ f k v x=f x:=by simp[LJ,h]
theorem LO{α:Type}{R:α->α->Prop}{a b:α}:∀ {l:List α} {j:Nat},l.Pairwise R->l[j]?=some a->(∀ x,R a x->R b x)->(∀ x,R x a->R x b)->(l.set j b).Pairwise R
 | [],j,h,hj,h1,h2=>by simp at hj
 | y::ys,0,h,hj,h1,h2=>by
  simp only[b7c,b3t] at hj;subst hj;obtain⟨k1,k2⟩:=b6n.1 h;exact b6n.2 ⟨λ x hx=>h1 x (k1 x hx),k2⟩
 | y::ys,j+1,h,hj,h1,h2=>by
  obtain⟨k1,k2⟩:=b6n.1 h;simp only[List.getElem?_cons_succ] at hj;refine b6n.2 ⟨λ x hx=>?_,LO k2 hj h1 h2⟩;rcases List.mem_or_eq_of_mem_set hx with hx|rfl
  .exact k1 x hx
  .exact h2 y (k1 a (b4S hj))
theorem Oa.store(h:Oa m es)(hT:P.underlying T=some (.map kT eT))(hk:P.underlying kT=some (descOf m.κ))(hb:w.heap[b]?=some (.map es clock))
  {k:m.κ.den} {v:Value} (hv:wM m.κ k v) {x:m.ε.den} {u:Value} (hu:wM m.ε x u) (hn:m.n<1000000000) :
  ∃ es' Uy,(Instr.mapUpdate T (.map (some b)) v u).run P w = .ok () { w with heap:=w.heap.setIfInBounds b (.map es' Uy) }/\Oa ⟨m.κ,m.ε,LJ m.f k x,S5 (m.f k) m.n⟩ es':=by
 have hK:=hv.isKey h.sk w;rcases h.found hv w with ⟨h1,h2,h3⟩|⟨j,e,y,h1,h2,h3,h4,h5⟩
 .refine⟨es.push ⟨v,u,clock⟩,clock+1,?_,?_⟩
  .simp[Instr.mapUpdate,b4v hT,b5X hb,run_checkKey hk hK,run_findKey hk h1,run_setObj_map _ hb,Result.andThen]
  .refine⟨h.sk,h.se,?_,by simp[S5,h3];omega,?_,?_,?_⟩
   .simp[S5,h3,h.len]
   .simp only[b6P];refine List.pairwise_append.2 ⟨h.nd,by simp,λ a ha b' cz=>?_⟩;simp only[b4e] at cz;subst cz;exact h2 a ha
   .intro e he;simp only[b6P,b3y,b4e] at he;rcases he with he|rfl
    .obtain⟨k',v',k1,k2,k3⟩:=h.ent e he;refine⟨k',v',k1,k2,?_⟩;show LJ m.f k x k'=some v';rw[Bh _ _ _ (λ e1=>h2 e he ((e1 ▸ k1).inj h.sk hv w))];exact k3
    .exact⟨k,x,hv,hu,WU _ _ _⟩
   .intro k' v' hf;by_cases hkk:k'=k
    .exact⟨⟨v,u,clock⟩,by simp,by rw[hkk];exact hv⟩
    .have hf':m.f k'=some v':=by rw[<-Bh m.f k x hkk];exact hf
     obtain⟨e,he,hke⟩:=h.all k' v' hf';exact⟨e,by simp only[b6P,b3y];exact .inl he,hke⟩
 .have hj:es[j]?=some e:=by simpa using h2
  have a0e:(es.modify j (λ e'=>{ e' with key:=v,val:=u })).toList=es.toList.set j { e with key:=v,val:=u }:=by
   rw[Array.toList_modify];apply b6q;intro i;simp only[List.getElem?_modify,b6r];by_cases Dj:j=i
   .subst Dj;have hl:=(b4p.1 h2).1;simp only[b4d,b4d hl];rw[h2];rfl
   .simp[Dj]
  refine⟨es.modify j (λ e'=>{ e' with key:=v,val:=u }),clock,?_,?_⟩
  .simp[Instr.mapUpdate,b4v hT,b5X hb,run_checkKey hk hK,run_findKey hk h1,hj,h3,run_keyThatStays hK,run_setObj_map _ hb,Result.andThen]
  .have oth:∀ x'∈es.toList.set j { e with key:=v,val:=u },x'={ e with key:=v,val:=u }\/(x'∈es.toList/\x'.key≠v):=by
    intro x' hx;obtain⟨i,hi,ex⟩:=b6j hx;rw[List.getElem_set] at ex;split at ex
    .exact .inl ex.symm
    .rename_i eQ;have lZ:i<es.toList.length:=by simpa using hi
     refine .inr ⟨ex ▸ b4Q lZ,λ hxv=>?_⟩;have XW:j<es.toList.length:=(b4p.1 h2).1;have hje:es.toList[j]=e:=(b4p.1 h2).2;have hpw:=List.pairwise_iff_getElem.1 h.nd;rcases Nat.lt_or_gt_of_ne eQ with hl|hl
     .exact hpw j i XW lZ hl (by rw[hje,ex,h3,hxv])
     .exact hpw i j lZ XW hl (by rw[hje,ex,h3,hxv])
   refine⟨h.sk,h.se,?_,by simp[S5,h4];omega,?_,?_,?_⟩
   .simp[S5,h4,h.len]
   .rw[a0e];exact LO h.nd h2 (λ x' hx=>by rw[<-h3];exact hx) (λ x' hx=>by rw[<-h3];exact hx)
   .intro e' Dh;rw[a0e] at Dh;rcases oth e' Dh with rfl|⟨he,eQ⟩
    .exact⟨k,x,hv,hu,WU _ _ _⟩
    .obtain⟨k',v',k1,k2,k3⟩:=h.ent e' he;refine⟨k',v',k1,k2,?_⟩;show LJ m.f k x k'=some v';rw[Bh _ _ _ (λ e1=>eQ ((e1 ▸ k1).inj h.sk hv w))];exact k3
   .intro k' v' hf;by_cases hkk:k'=k
    .refine⟨{ e with key:=v,val:=u },?_,(show k'=k from hkk).symm ▸ hv⟩;rw[a0e];exact List.mem_iff_getElem.2 ⟨j,by simpa using (List.getElem?_eq_some_iff.1 h2).1,by simp⟩
    .have hf':m.f k'=some v':=by rw[<-Bh m.f k x hkk];exact hf
     obtain⟨e',Dh,hke⟩:=h.all k' v' hf';refine⟨e',?_,hke⟩;rw[a0e];obtain⟨i,hi,ex⟩:=b6j Dh;have Dj:j≠i:=by
      intro e1;subst e1;have hje:es.toList[j]=e:=(b4p.1 h2).2;have:e'=e:=ex ▸ hje;subst this;exact hkk ((h3 ▸ hke).val h.sk hv w)
     exact List.mem_iff_getElem.2 ⟨i,by simpa using hi,by rw[List.getElem_set_ne Dj];exact ex⟩
end
end Go.Proofs.YtmjfpcajohhbeaaGreatDoor

namespace Go.Proofs.YtmjfpcajohhbeaaGreatDoor
def aT{α β:Type}(R:α->β->Prop):List α->List β->Prop
 | [],[]=>True
 | a::Z9,b::bs=>R a b/\aT R Z9 bs
 | _,_=>False
theorem aT.length{α β:Type}{R:α->β->Prop}:∀ {Z9:List α} {bs:List β},aT R Z9 bs->Z9.length=bs.length
 | [],[],_=>rfl
 | _::_,_::_,h=>by simp[aT.length h.2]
 | [],_::_,h=>h.elim
 | _::_,[],h=>h.elim
theorem aT.imp{α β:Type}{R R':α->β->Prop}:∀ {Z9:List α} {bs:List β},aT R Z9 bs->(∀ a b,a∈Z9->R a b->R' a b)->aT R' Z9 bs
 | [],[],_,_=>trivial
 | _::_,_::_,h,k=>⟨k _ _ (by simp) h.1,aT.imp h.2 λ a b ha=>k a b (by simp[ha])⟩
 | [],_::_,h,_=>h.elim
 | _::_,[],h,_=>h.elim
theorem aT.at_{α β:Type}{R:α->β->Prop}:∀ {Z9:List α} {bs:List β},aT R Z9 bs->∀ (i:Nat) a,Z9[i]?=some a->∃ b,bs[i]?=some b/\R a b
 | [],[],_,i,a,h=>by simp at h
 | _::_,b::_,h,0,a,hi=>by simp at hi;subst hi;exact⟨b,rfl,h.1⟩
 | _::_,_::_,h,i+1,a,hi=>by simpa using aT.at_ h.2 i a (by simpa using hi)
 | [],_::_,h,_,_,_=>h.elim
 | _::_,[],h,_,_,_=>h.elim
theorem aT.append{α β:Type}{R:α->β->Prop}:∀ {Z9:List α} {bs:List β} {as' bs'},aT R Z9 bs->aT R as' bs'->aT R (Z9++as') (bs++bs')
 | [],[],_,_,_,k=>k
 | _::_,_::_,_,_,h,k=>⟨h.1,aT.append h.2 k⟩
 | [],_::_,_,_,h,_=>h.elim
 | _::_,[],_,_,h,_=>h.elim
theorem aT.take{α β:Type}{R:α->β->Prop}(n:Nat):∀ {Z9:List α} {bs:List β},aT R Z9 bs->aT R (Z9.take n) (bs.take n):=by
 induction n with
 | zero=>intro Z9 bs _;simp[aT]
 | succ n ih =>
  intro Z9 bs h;match Z9,bs,h with
  | [],[],_=>simp[aT]
  | _::_,_::_,h=>exact⟨h.1,ih h.2⟩
theorem aT.drop{α β:Type}{R:α->β->Prop}(n:Nat):∀ {Z9:List α} {bs:List β},aT R Z9 bs->aT R (Z9.drop n) (bs.drop n):=by
 induction n with
 | zero=>intro Z9 bs h;simpa using h
 | succ n ih =>
  intro Z9 bs h;match Z9,bs,h with
  | [],[],_=>simp[aT]
  | _::_,_::_,h=>exact ih h.2
theorem aT.en{α β γ:Type}{R:γ->β->Prop}(f:α->γ):∀ {Z9:List α} {bs:List β},aT (λ a b=>R (f a) b) Z9 bs->aT R (Z9.map f) bs
 | [],[],_=>trivial
 | _::_,_::_,h=>⟨h.1,aT.en f h.2⟩
 | [],_::_,h=>h.elim
 | _::_,[],h=>h.elim
theorem aT.of_map{α β γ:Type}{R:γ->β->Prop}(f:α->γ):∀ {Z9:List α} {bs:List β},aT R (Z9.map f) bs->aT (λ a b=>R (f a) b) Z9 bs
 | [],[],_=>trivial
 | _::_,_::_,h=>⟨h.1,aT.of_map f h.2⟩
 | [],_::_,h=>h.elim
 | _::_,[],h=>h.elim
theorem dh.dH{w:World}{S:Nat->Prop}:∀ {vs:List TV} {cs:List Value},dh w S (vs.map TV.aP) cs↔aT (λ v x=>Rd w S v.aP [x]) vs cs
 | [],[]=>by simp[dh,aT]
 | [],_::_=>by simp[dh,aT]
 | v::vs,[]=>by simp[dh,aT]
 | v::vs,x::cs=>by
  simp only[b4o,dh,aT];constructor
  .rintro⟨y,r,h1,h2,h3⟩;simp only[b3F] at h1;obtain⟨rfl,rfl⟩:=h1;exact⟨h2,dh.dH.1 h3⟩
  .rintro⟨h1,h2⟩;exact⟨x,cs,rfl,h1,dh.dH.2 h2⟩
structure bC(X:Nat->Prop)(w w':World):Prop where
 os:w'.os=w.os
 tape:w'.tape=w.tape
 output:w'.output=w.output
 size:w.heap.size<=w'.heap.size
 block:∀ b,b<w.heap.size->¬ X b->w'.heap[b]?=w.heap[b]?
theorem bC.refl(X:Nat->Prop)(w:World):bC X w w:=⟨rfl,rfl,rfl,b4h _,λ _ _ _=>rfl⟩
theorem bC.trans{X Y:Nat->Prop}{a b c:World}(h:bC X a b)(k:bC Y b c)(hXY:∀ i,i<a.heap.size->Y i->X i):bC X a c :=
 ⟨k.os.trans h.os,k.tape.trans h.tape,k.output.trans h.output,b5r h.size k.size,
  λ i hi hx=>(k.block i (b3P hi h.size) (λ hy=>hx (hXY i hi hy))).trans (h.block i hi hx)⟩
structure Ctx where
 P:Program
 E:Env
 w0:World
 X:Nat->Prop
 S0:Nat->Prop
 R:Nat->Option Value
 Z:Nat->Prop
 RB:Nat->Option Nat
structure Gh where
 S:Nat->Prop
 η:Nat->Value
 φ:Nat->List Nat
def St(c:Ctx)(S:Nat->Prop)(b:Nat):Prop:=S b\/(b<c.w0.heap.size/\¬ c.X b/\¬ c.Z b)
def eb:Value->Option Nat
 | .pointer (some a)=>some a.block
 | .slice (some a) _ _=>some a.block
 | .map (some b)=>some b
 | _=>none
def dZ(w:World)(S:Nat->Prop)(v:TV)(x:Value):Prop :=
 match v with
 | ⟨.st s,y⟩=>∃ cs,x = .agg cs.toArray/\Rd w S (s.aP y) cs
 | v=>Rd w S v.aP [x]
def LW(w:World)(S:Nat->Prop):Arg->Value->Prop
 | .val v,x=>dZ w S v x
 | .ref v,x=>∃ b o cs,x = .pointer (some ⟨b,o,none⟩)/\b<w.heap.size/\cd w b o cs/\Rd w S v.aP cs
 | .fn f,x=>x = .func (.func f) #[] #[]
 | .c9 _,_=>False
 | .own _,_=>False
 | .box _,_=>False
def HE(w:World)(S:Nat->Prop):List TV->Value->Prop
 | [v],x=>dZ w S v x
 | vs,x=>∃ l,x = .tuple l.toArray/\aT (dZ w S) vs l
def Gok(w:World)(S:Nat->Prop):Prop:=∀ g∈a2Z,S g/\∃ m,w.cell? ⟨g,0,none⟩=some (.int .i64 m)
def ua(w:World)(S:Nat->Prop):Prop:=(∀ b,S b->b<w.heap.size)/\Gok w S
theorem Gok.mono{w w':World}{S S':Nat->Prop}(h:Gok w S)(hS:∀ b,S b->S' b)(hw:∀ b,S b->w'.heap[b]?=w.heap[b]?):Gok w' S':=λ g hg=>by
 obtain⟨h1,m,h2⟩:=h g hg;exact⟨hS g h1,m,(b6b (a:=⟨g,0,none⟩) (hw g h1)).trans h2⟩
def Ob(P:Program)(f:FuncId)(args:List Arg)(post:List TV->Prop):Prop :=
 ∀ (w:World) (S:Nat->Prop) (cA:List Value),ua w S->aT (LW w S) args cA ->
  Calls P f cA.toArray w λ e w'=>∃ x S' res,e = .returned x/\post res/\bC (λ _=>False) w w'/\(∀ b,b<w.heap.size->(S' b↔S b))/\(∀ b,S' b->b<w'.heap.size)/\HE w' S' res x
def jG (P:Program) (f:FuncId):Prop:=∃ fn,P.funcs[f]?=some fn/\fn.body.isNone=false/\(fn.name == "runtime.NumGoroutine")=false
def Eo(P:Program)(f:FuncId)(eO:List Arg):(ps:List Ty)->(r:Ty)->FN ps r->List Arg->Prop
 | [],r,F,acc=>F.1->jG P f/\Ob P f (acc++eO) (·=[⟨r,F.2⟩])
 | t::ts,r,F,acc=>∀ x,Eo P f eO ts r (F x) (acc++[.val ⟨t,x⟩])
def UQ(c:Ctx)(S:Nat->Prop)(w:World):Arg->Value->Prop
 | .val v,x=>dZ w S v x
 | .ref v,x=>∃ b o cs,x = .pointer (some ⟨b,o,none⟩)/\St c S b/\cd w b o cs/\Rd w S v.aP cs
 | .fn f,x=>x = .func (.func f) #[] #[]
 | .c9 _,_=>False
 | .own _,_=>False
 | .box _,_=>False
def C1(c:Ctx)(G:Gh)(lk:Nat->Option aA)(w:World):AV->Value->Prop
 | .any,_=>True
 | .ei,x=>x=undef
 | .aF v,x=>v.τ.agg=false/\Rd w G.S v.aP [x]
 | .nil,x=>x = .slice none 0 0
 | .cZ v,x=>∃ b o cs,x = .pointer (some ⟨b,o,none⟩)/\St c G.S b/\cd w b o cs/\Rd w G.S v.aP cs
 | .ptr id off,x=>∃ b,G.η id = .pointer (some ⟨b,0,none⟩)/\x = .pointer (some ⟨b,off,none⟩)/\gf (lk id)=true
 | .row id,x=>x=G.η id/\isRow (lk id)=true/\∃ a n m,x = .slice a n m
 | .eG id i off,x=>∃ b n cap e τ xs,G.η id = .slice (some ⟨b,0,none⟩) n cap/\lk id=some (.row e τ xs)/\i<xs.length/\x = .pointer (some ⟨b,i * τ.size+off,none⟩)
 | .fn f,x=>x = .func (.func f) #[] #[]
 | .aw id,x=>cx (lk id)=true/\∃ l,G.η id = .tuple (x::l).toArray/\∃ a n m,x = .slice a n m
 | .sub id i off sz,x=>cx (lk id)=true/\∃ a n cap l,G.η id = .tuple (.slice a n cap::l).toArray/\i<n/\l[i * sz+off]?=some x/\∃ a n m,x = .slice a n m
 | .eP id i off sz,x=>cx (lk id)=true/\∃ b n cap l,G.η id = .tuple (.slice (some ⟨b,0,none⟩) n cap::l).toArray/\i<n/\x = .pointer (some ⟨b,i * sz+off,none⟩)
 | .iC v,x=>∃ f eO l,x = .func (.func f) #[] l.toArray/\Eo c.P f eO v.ps v.r v.F []/\aT (UQ c G.S w) eO l
 | .mp id,x=>x=G.η id/\Ni (lk id)=true/\∃ b,x = .map (some b)
 | .agg _,_=>False
 | .iP _,_=>False
 | .c9 ..,_=>False
def TR(c:Ctx)(G:Gh)(lk:Nat->Option aA)(w:World):AV->Value->Prop
 | .any,_=>True
 | .aF v,x=>dZ w G.S v x
 | .aw id,x=>C1 c G lk w (.aw id) x
 | .cZ v,x=>C1 c G lk w (.cZ v) x
 | .agg cs,x=>∃ l,x = .agg l.toArray/\aT (C1 c G lk w) cs l
 | _,_=>False
def CR(c:Ctx)(G:Gh)(lk:Nat->Option aA)(w:World):AV->Value->Prop
 | .aF v,x=>dZ w G.S v x
 | .agg cs,x=>∃ l,x = .agg l.toArray/\aT (C1 c G lk w) cs l
 | v,x=>C1 c G lk w v x
def VR(c:Ctx)(G:Gh)(lk:Nat->Option aA)(w:World):AV->Value->Prop
 | .aF v,x=>dZ w G.S v x
 | .agg cs,x=>∃ l,x = .agg l.toArray/\aT (C1 c G lk w) cs l
 | .iP vs,x=>∃ l,x = .tuple l.toArray/\aT (TR c G lk w) vs l
 | .c9 f cs,x=>∃ l,x = .func (.func f) #[] l.toArray/\aT (CR c G lk w) cs l
 | v,x=>C1 c G lk w v x
def OR(c:Ctx)(G:Gh)(lk:Nat->Option aA)(w:World)(id:Nat):aA->Prop
 | .box cs=>∃ b l t,G.η id = .pointer (some ⟨b,0,none⟩)/\w.heap[b]?=some (.cells l.toArray t (0,0))/\aT (C1 c G lk w) cs l
 | .row e τ xs=>∃ l,w.ownsRow 0 e τ.size (G.η id) xs.length l/\dT w G.S (xs.map τ.aP) l/\xs.length<=140737488355328
 | .aw τ xs=>True
 | .map m=>∃ b es clock,G.η id = .map (some b)/\w.heap[b]?=some (.map es clock)/\Oa m es
def iq(w:World)(η:Value)(τ:Ty)(xs:List τ.den)(fp:List Nat):Prop :=
 ∃ v l a cap,η = .tuple (v::l).toArray/\v = .slice a xs.length cap/\xs.length<=cap/\cap<=maxLen/\xs.length<=140737488355328 /\
  ((xs=[]/\(a=none/\cap=0)/\fp=[])\/∃ b f t,a=some ⟨b,0,none⟩/\fp=b::f/\w.heap[b]?=some (.cells l.toArray t (0,0))/\l.length=cap * τ.size/\bQ w (xs.map τ.aP) l f)
structure L0(c:Ctx)(G:Gh)(lk:Nat->Option aA)(w:World):Prop where
 tr:∀ id τ xs,lk id=some (.aw τ xs)->iq w (G.η id) τ xs (G.φ id)
 nd:∀ id τ xs,lk id=some (.aw τ xs)->(G.φ id).Nodup
 pl:∀ id τ xs b,lk id=some (.aw τ xs)->b∈G.φ id->(c.w0.heap.size<=b\/c.X b)/\¬ G.S b/\b<w.heap.size/\∀ i o,lk i=some o->eb (G.η i)≠some b
 ap:∀ id dx τ bf xs cR b,lk id=some (.aw τ xs)->lk dx=some (.aw bf cR)->b∈G.φ id->b∈G.φ dx->id=dx
def XGk(c:Ctx):Prop:=(∀ b,c.X b->b<c.w0.heap.size)/\∀ g∈a2Z,c.S0 g/\¬ c.X g/\g<c.w0.heap.size/\∃ m,c.w0.cell? ⟨g,0,none⟩=some (.int .i64 m)
structure bu(c:Ctx)(G:Gh)(sl:Nat->AV)(n:Nat)(lk:Nat->Option aA)(a:Act)(w:World):Prop where
 defers:a.defers=[]
 size:a.tmps.size=n
 aS:bC c.X c.w0 w
 jE:XGk c
 ez:∀ b,b<c.w0.heap.size->¬ c.X b->(G.S b↔c.S0 b)
 sX:∀ b,c.S0 b->G.S b
 dE:∀ b,G.S b->b<w.heap.size
 aC:∀ i,VR c G lk w (sl i) (a.tmps.getD i undef)
 aK:∀ id o,lk id=some o->OR c G lk w id o
 place:∀ id o b,lk id=some o->eb (G.η id)=some b->(c.w0.heap.size<=b\/c.X b)/\¬ G.S b/\b<w.heap.size
 apart:∀ id dx o o' b,lk id=some o->lk dx=some o'->eb (G.η id)=some b->eb (G.η dx)=some b->id=dx
 aR:L0 c G lk w
 root:∀ id v,c.R id=some v->cx (lk id)=true->∃ l,G.η id = .tuple (v::l).toArray
 iO:∀ id v,c.R id=some v->50<=id/\id<100
 du:∀ id b,c.RB id=some b->gf (lk id)=true->G.η id = .pointer (some ⟨b,0,none⟩)
 fc:∀ id b,c.RB id=some b->400000<=id
theorem bu.sOk{c:Ctx}{G:Gh}{sl:Nat->AV}{n:Nat}{lk:Nat->Option aA}{a:Act}{w:World}(h:bu c G sl n lk a w):ua w G.S:=⟨h.dE,λ g hg=>by
 obtain⟨h1,h2,h3,m,h4⟩:=h.jE.2 g hg;exact⟨h.sX g h1,m,(b6b (a:=⟨g,0,none⟩) (h.aS.block g h3 h2)).trans h4⟩⟩
theorem bu.a6M{c:Ctx}{G:Gh}{sl:Nat->AV}{n:Nat}{lk:Nat->Option aA}{a:Act}{w:World}(h:bu c G sl n lk a w){fp:List Nat}(hn:∀ b∈fp,¬ G.S b):Gok w (λ b=>b<w.heap.size/\b∉fp) :=
 h.sOk.2.mono (λ b hb=>⟨h.dE b hb,λ q=>hn b q hb⟩) λ _ _=>rfl
def ai.sl(s:ai)(i:Nat):AV:=s.aC.getD i .any
def Inv(c:Ctx)(G:Gh)(s:ai)(a:Act)(w:World):Prop:=bu c G s.sl s.aC.length s.ah a w
theorem sT{o:Option aA}(h:isRow o=true):cx o=false:=by
 match o,h with
 | some (.row ..),_=>rfl
theorem LI{o:Option aA}(h:Ni o=true):cx o=false:=by
 match o,h with
 | some (.map _),_=>rfl
def eJ(o o':Option aA):Prop :=
 (gf o=true->gf o'=true)/\(∀ e τ xs,o=some (.row e τ xs)->∃ e' cR,o'=some (.row e' τ cR)/\xs.length<=cR.length)/\(cx o=true->cx o'=true)/\(Ni o=true->Ni o'=true)
theorem eJ.refl(o:Option aA):eJ o o:=⟨id,λ e τ xs h=>⟨e,xs,h,b4h _⟩,id,id⟩
theorem eJ.isRow{o o':Option aA}(h:eJ o o')(hr:isRow o=true):YtmjfpcajohhbeaaGreatDoor.isRow o'=true:=by
 match o,hr with
 | some (.row e τ xs),_ =>
  obtain⟨e',cR,h1,_⟩:=h.2.1 e τ xs rfl;rw[h1];rfl
section
variable {c:Ctx} {G G':Gh} {lk lk':Nat->Option aA} {w w':World}
theorem dZ.mono{v:TV}{x:Value}(h:dZ w G.S v x)(hS:∀ b,G.S b->G'.S b)(hw:∀ b,G.S b->w'.heap[b]?=w.heap[b]?):dZ w' G'.S v x:=by
 obtain⟨τ,y⟩:=v;cases τ with
 | st s =>
  obtain⟨cs,h1,h2⟩:=h;exact⟨cs,h1,Rd.aS hS hw _ h2⟩
 | _=>exact Rd.aS hS hw _ h
theorem UQ.mono{S S':Nat->Prop}{v:Arg}{x:Value}(h:UQ c S w v x)(hS:∀ b,S b->S' b)(hw:∀ b,St c S b->w'.heap[b]?=w.heap[b]?):UQ c S' w' v x:=by
 cases v with
 | val v=>exact dZ.mono (G:=⟨S,λ _=>undef,λ _=>[]⟩) (G':=⟨S',λ _=>undef,λ _=>[]⟩) h hS (λ b hb=>hw b (.inl hb))
 | ref v =>
  obtain⟨b,o,cs,h1,h2,h3,h4⟩:=h;exact⟨b,o,cs,h1,h2.imp (hS b) id,h3.aS (hw b h2),Rd.aS hS (λ b hb=>hw b (.inl hb)) _ h4⟩
 | fn f=>exact h
 | c9 v=>exact h
 | own v=>exact h
 | box k=>exact h
theorem C1.mono{v:AV}{x:Value}(h:C1 c G lk w v x)(hk:∀ id,v.refs id=true->eJ (lk id) (lk' id)/\G'.η id=G.η id)
  (hS:∀ b,G.S b->G'.S b) (hw:∀ b,St c G.S b->w'.heap[b]?=w.heap[b]?):C1 c G' lk' w' v x:=by
 have hw':∀ b,G.S b->w'.heap[b]?=w.heap[b]?:=λ b hb=>hw b (.inl hb);cases v with
 | any=>trivial
 | ei=>exact h
 | aF v=>exact⟨h.1,Rd.aS hS hw' _ h.2⟩
 | nil=>exact h
 | cZ v =>
  obtain⟨b,o,cs,h1,h2,h3,h4⟩:=h;exact⟨b,o,cs,h1,h2.imp (hS b) id,h3.aS (hw b h2),Rd.aS hS hw' _ h4⟩
 | ptr id off =>
  obtain⟨b,h1,h2,h3⟩:=h;obtain⟨k1,k2⟩:=hk id (by simp[AV.refs]);exact⟨b,k2.trans h1,h2,k1.1 h3⟩
 | row id =>
  obtain⟨h1,h2,h3⟩:=h;obtain⟨k1,k2⟩:=hk id (by simp[AV.refs]);exact⟨h1.trans k2.symm,k1.isRow h2,h3⟩
 | eG id i off =>
  obtain⟨b,n,cap,e,τ,xs,h1,h2,h3,h4⟩:=h;obtain⟨k1,k2⟩:=hk id (by simp[AV.refs]);obtain⟨e',cR,k3,k4⟩:=k1.2.1 e τ xs h2;exact⟨b,n,cap,e',τ,cR,k2.trans h1,k3,by omega,h4⟩
 | fn f=>exact h
 | aw id =>
  obtain⟨h1,l,h2,h3⟩:=h;obtain⟨k1,k2⟩:=hk id (by simp[AV.refs]);exact⟨k1.2.2.1 h1,l,k2.trans h2,h3⟩
 | sub id i off sz =>
  obtain⟨h1,a,n,cap,l,h2,h3⟩:=h;obtain⟨k1,k2⟩:=hk id (by simp[AV.refs]);exact⟨k1.2.2.1 h1,a,n,cap,l,k2.trans h2,h3⟩
 | eP id i off sz =>
  obtain⟨h1,b,n,cap,l,h2,h3⟩:=h;obtain⟨k1,k2⟩:=hk id (by simp[AV.refs]);exact⟨k1.2.2.1 h1,b,n,cap,l,k2.trans h2,h3⟩
 | iC v =>
  obtain⟨f,eO,l,h1,h2,h3⟩:=h;exact⟨f,eO,l,h1,h2,h3.imp λ u y _ hy=>hy.mono hS hw⟩
 | mp id =>
  obtain⟨h1,h2,h3⟩:=h;obtain⟨k1,k2⟩:=hk id (by simp[AV.refs]);exact⟨h1.trans k2.symm,k1.2.2.2 h2,h3⟩
 | agg cs=>exact h
 | iP vs=>exact h
 | c9 f cs=>exact h
theorem mh{id:Nat}:∀ {cs:List AV} {v:AV},v∈cs->v.refs id=true->AV.gh id cs=true
 | u::r,v,hm,hv=>by
  simp only[AV.gh];rcases b3S.1 hm with rfl|h
  .rw[hv]
  .split
   .rfl
   .exact mh h hv
theorem CR.mono{v:AV}{x:Value}(h:CR c G lk w v x)(hk:∀ id,v.refs id=true->eJ (lk id) (lk' id)/\G'.η id=G.η id)
  (hS:∀ b,G.S b->G'.S b) (hw:∀ b,St c G.S b->w'.heap[b]?=w.heap[b]?):CR c G' lk' w' v x:=by
 cases v with
 | aF v=>exact dZ.mono h hS (λ b hb=>hw b (.inl hb))
 | agg cs =>
  obtain⟨l,h1,h2⟩:=h;exact⟨l,h1,h2.imp λ u y hu hy=>hy.mono (λ id aZ=>hk id (by simp only[AV.refs];exact mh hu aZ)) hS hw⟩
 | any=>trivial
 | ei=>exact h
 | nil=>exact C1.mono (v := .nil) h hk hS hw
 | cZ v=>exact C1.mono (v := .cZ v) h hk hS hw
 | ptr i o=>exact C1.mono (v := .ptr i o) h hk hS hw
 | row i=>exact C1.mono (v := .row i) h hk hS hw
 | eG i k o=>exact C1.mono (v := .eG i k o) h hk hS hw
 | fn f=>exact C1.mono (v := .fn f) h hk hS hw
 | aw i=>exact C1.mono (v := .aw i) h hk hS hw
 | sub i k o z=>exact C1.mono (v := .sub i k o z) h hk hS hw
 | eP i k o z=>exact C1.mono (v := .eP i k o z) h hk hS hw
 | iC v=>exact C1.mono (v := .iC v) h hk hS hw
 | mp i=>exact C1.mono (v := .mp i) h hk hS hw
 | iP _=>exact h
 | c9 _ _=>exact h
theorem VR.mono{v:AV}{x:Value}(h:VR c G lk w v x)(hk:∀ id,v.refs id=true->eJ (lk id) (lk' id)/\G'.η id=G.η id)
  (hS:∀ b,G.S b->G'.S b) (hw:∀ b,St c G.S b->w'.heap[b]?=w.heap[b]?):VR c G' lk' w' v x:=by
 have hw':∀ b,G.S b->w'.heap[b]?=w.heap[b]?:=λ b hb=>hw b (.inl hb);cases v with
 | aF v=>exact dZ.mono h hS hw'
 | agg cs =>
  obtain⟨l,h1,h2⟩:=h;exact⟨l,h1,h2.imp λ u y hu hy=>hy.mono (λ id aZ=>hk id (by simp only[AV.refs];exact mh hu aZ)) hS hw⟩
 | iP vs =>
  obtain⟨l,h1,h2⟩:=h;refine⟨l,h1,h2.imp λ u y hu hy=>?_⟩;have lF:∀ id,u.refs id=true->eJ (lk id) (lk' id)/\G'.η id=G.η id:=λ id aZ=>hk id (by simp only[AV.refs];exact mh hu aZ);cases u with
  | any=>trivial
  | aF v=>exact dZ.mono hy hS hw'
  | aw i=>exact C1.mono (v := .aw i) hy lF hS hw
  | cZ v=>exact C1.mono (v := .cZ v) hy lF hS hw
  | agg cs =>
   obtain⟨l,h1,h2⟩:=hy;exact⟨l,h1,h2.imp λ u y hu hy=>hy.mono (λ id aZ=>lF id (by simp only[AV.refs];exact mh hu aZ)) hS hw⟩
  | _=>exact hy.elim
 | ei=>trivial
 | any=>trivial
 | nil=>exact C1.mono (v := .nil) h hk hS hw
 | cZ v=>exact C1.mono (v := .cZ v) h hk hS hw
 | ptr i o=>exact C1.mono (v := .ptr i o) h hk hS hw
 | row i=>exact C1.mono (v := .row i) h hk hS hw
 | eG i k o=>exact C1.mono (v := .eG i k o) h hk hS hw
 | fn f=>exact C1.mono (v := .fn f) h hk hS hw
 | aw i=>exact C1.mono (v := .aw i) h hk hS hw
 | sub i k o z=>exact C1.mono (v := .sub i k o z) h hk hS hw
 | eP i k o z=>exact C1.mono (v := .eP i k o z) h hk hS hw
 | iC v=>exact C1.mono (v := .iC v) h hk hS hw
 | mp i=>exact C1.mono (v := .mp i) h hk hS hw
 | c9 f cs =>
  obtain⟨l,h1,h2⟩:=h;exact⟨l,h1,h2.imp λ u y hu hy=>hy.mono (λ id aZ=>hk id (by simp only[AV.refs];exact mh hu aZ)) hS hw⟩
def aA.refs(id:Nat):aA->Bool
 | .box cs=>AV.gh id cs
 | .row .. => false
 | .aw .. => false
 | .map .. => false
theorem sx{v:Value}{e:TypeId}{size n:Nat}{l:List Value}(h:w.ownsRow 0 e size v n l):v.ownBlock=eb v:=by
 rcases h.2 with ⟨rfl,_⟩|⟨g,cap,cur,rfl,_⟩<;>rfl
theorem LN{e:TypeId}{size n:Nat}{v:Value}{l:List Value}(h:w.ownsRow 0 e size v n l)(hb:∀ b,eb v=some b->w'.heap[b]?=w.heap[b]?):w'.ownsRow 0 e size v n l:=by
 refine⟨h.1,h.2.imp id ?_⟩;rintro⟨g,cap,cur,rfl,h1,h2,h3⟩;exact⟨g,cap,cur,rfl,h1,by rw[hb g rfl];exact h2,h3⟩
theorem OR.mono{id:Nat}{o:aA}(h:OR c G lk w id o)(eu:G'.η id=G.η id)(hb:∀ b,eb (G.η id)=some b->w'.heap[b]?=w.heap[b]?)
  (hk:∀ j,o.refs j=true->eJ (lk j) (lk' j)/\G'.η j=G.η j) (hS:∀ b,G.S b->G'.S b) (hw:∀ b,St c G.S b->w'.heap[b]?=w.heap[b]?):OR c G' lk' w' id o:=by
 cases o with
 | box cs =>
  obtain⟨b,l,t,h1,h2,h3⟩:=h;refine⟨b,l,t,eu.trans h1,?_,h3.imp λ u y hu hy=>hy.mono (λ j hj=>hk j (mh hu hj)) hS hw⟩;rw[hb b (by rw[h1];rfl)];exact h2
 | row e τ xs =>
  obtain⟨l,h1,h2,h3⟩:=h;refine⟨l,?_,dT.aS hS (λ b hb=>hw b (.inl hb)) _ h2,h3⟩;rw[eu];exact LN h1 hb
 | aw τ xs=>trivial
 | map m =>
  obtain⟨b,es,clock,h1,h2,h3⟩:=h;exact⟨b,es,clock,eu.trans h1,by rw[hb b (by rw[h1];rfl)];exact h2,h3⟩
end
theorem iq.aS{w w':World}{η:Value}{τ:Ty}{xs:List τ.den}{fp:List Nat}(h:iq w η τ xs fp)(hw:∀ b∈fp,w'.heap[b]?=w.heap[b]?):iq w' η τ xs fp:=by
 obtain⟨v,l,a,cap,h1,h2,h3,h4,h5,h6⟩:=h;refine⟨v,l,a,cap,h1,h2,h3,h4,h5,h6.imp id ?_⟩;rintro⟨b,f,t,k1,rfl,k2,k0,k3⟩;exact⟨b,f,t,k1,rfl,by rw[hw b (by simp)];exact k2,k0,bQ.aS _ k3 λ b hb=>hw b (by simp[hb])⟩
theorem bu.world{c:Ctx}{G:Gh}{sl:Nat->AV}{n:Nat}{lk:Nat->Option aA}{a:Act}{w w':World}{S':Nat->Prop}(h:bu c G sl n lk a w)
  (gd:bC (λ b=>c.w0.heap.size<=b\/c.X b) w w') (hS:∀ b,G.S b->S' b) (a6N:∀ b,b<w.heap.size->(S' b↔G.S b)) (hX:∀ b,c.S0 b->S' b) (hLt:∀ b,S' b->b<w'.heap.size)
  (hw:∀ b,St c G.S b->w'.heap[b]?=w.heap[b]?) (lq:∀ id o b,lk id=some o->eb (G.η id)=some b->w'.heap[b]?=w.heap[b]?) (Ho:∀ id τ xs b,lk id=some (.aw τ xs)->b∈G.φ id->w'.heap[b]?=w.heap[b]?) :
  bu c ⟨S',G.η,G.φ⟩ sl n lk a w' where
 defers:=h.defers
 size:=h.size
 aS:=h.aS.trans gd λ i hi hy=>hy.elim (λ h=>by omega) id
 jE:=h.jE
 ez b hb hx:=(a6N b (b3P hb h.aS.size)).trans (h.ez b hb hx)
 sX:=hX
 dE:=hLt
 aC i:=(h.aC i).mono (λ id _=>⟨eJ.refl _,rfl⟩) hS hw
 aK id o ho:=(h.aK id o ho).mono rfl (λ b hb=>lq id o b ho hb) (λ j _=>⟨eJ.refl _,rfl⟩) hS hw
 place id o b ho hb:=by
  obtain⟨h1,h2,h3⟩:=h.place id o b ho hb;exact⟨h1,λ hs=>h2 ((a6N b h3).1 hs),b3P h3 gd.size⟩
 apart:=h.apart
 aR:={
  tr:=λ id τ xs ht=>(h.aR.tr id τ xs ht).aS λ b hb=>Ho id τ xs b ht hb
  nd:=h.aR.nd
  pl:=λ id τ xs b ht hb=>by
   obtain⟨h1,h2,h3,h4⟩:=h.aR.pl id τ xs b ht hb;exact⟨h1,λ hs=>h2 ((a6N b h3).1 hs),b3P h3 gd.size,h4⟩
  ap:=h.aR.ap }
 root:=h.root
 iO:=h.iO
 du:=h.du
 fc:=h.fc
theorem bu.drew{c:Ctx}{G:Gh}{sl:Nat->AV}{n:Nat}{lk:Nat->Option aA}{a:Act}{w:World}(h:bu c G sl n lk a w):bu c G sl n lk a w.drew :=
 h.world (S':=G.S) ⟨rfl,rfl,rfl,b4h _,λ _ _ _=>rfl⟩ (λ _ h=>h) (λ _ _=>b5z) h.sX h.dE (λ _ _=>rfl) (λ _ _ _ _ _=>rfl) (λ _ _ _ _ _ _=>rfl)
def jP(n:Nat)(sl:Nat->AV)(d:Option Nat)(v:AV)(i:Nat):AV:=if d=some i/\i<n then v else sl i
theorem ej(a:Act)(d:Option Nat)(x:Value)(i:Nat):(a.put d x).tmps.getD i undef=if d=some i/\i<a.tmps.size then x else a.tmps.getD i undef:=by
 cases d with
 | none=>simp[Act.put]
 | some d =>
  simp only[Act.put,b3t];by_cases h:d=i
  .subst h;by_cases hl:d<a.tmps.size
   .simp[hl,b4s]
   .simp[hl,b4s,Array.setIfInBounds]
  .simp[h,b4s,b6B]
theorem gJ(a:Act)(d:Option Nat)(x:Value):(a.put d x).tmps.size=a.tmps.size:=by cases d<;>simp[Act.put]
theorem jI(a:Act)(d:Option Nat)(x:Value):(a.put d x).defers=a.defers:=by cases d<;>rfl
theorem bu.put{c:Ctx}{G:Gh}{sl:Nat->AV}{n:Nat}{lk:Nat->Option aA}{a:Act}{w:World}(h:bu c G sl n lk a w){d:Option Nat}{v:AV}{x:Value}(hv:VR c G lk w v x) :
  bu c G (jP n sl d v) n lk (a.put d x) w where
 defers:=(jI _ _ _).trans h.defers
 size:=(gJ _ _ _).trans h.size
 aS:=h.aS
 jE:=h.jE
 ez:=h.ez
 sX:=h.sX
 dE:=h.dE
 aC i:=by
  rw[ej,h.size,jP];split
  .exact hv
  .exact h.aC i
 aK:=h.aK
 place:=h.place
 apart:=h.apart
 aR:=h.aR
 root:=h.root
 iO:=h.iO
 du:=h.du
 fc:=h.fc
theorem bu.forget{c:Ctx}{G:Gh}{sl sl':Nat->AV}{n:Nat}{lk:Nat->Option aA}{a:Act}{w:World}(h:bu c G sl n lk a w)(hs:∀ i,sl' i=sl i\/sl' i = .any):bu c G sl' n lk a w where
 defers:=h.defers
 size:=h.size
 aS:=h.aS
 jE:=h.jE
 ez:=h.ez
 sX:=h.sX
 dE:=h.dE
 aC i:=by
  rcases hs i with e|e
  .rw[e];exact h.aC i
  .rw[e];trivial
 aK:=h.aK
 place:=h.place
 apart:=h.apart
 aR:=h.aR
 root:=h.root
 iO:=h.iO
 du:=h.du
 fc:=h.fc
theorem a1F(id:Nat)(v:AV):v.kill id=v\/v.kill id = .any:=by unfold AV.kill;split<;>simp
theorem Fa(id:Nat)(v:AV):(v.kill id).refs id=false:=by
 unfold AV.kill;split
 .rfl
 .assumption
theorem C1.kill{c:Ctx}{G:Gh}{lk:Nat->Option aA}{w:World}{v:AV}{x:Value}(h:C1 c G lk w v x)(id:Nat):C1 c G lk w (v.kill id) x:=by
 rcases a1F id v with e|e
 .rw[e];exact h
 .rw[e];trivial
theorem JA(id:Nat):∀ cs:List AV,AV.gh id (cs.map (AV.kill id))=false
 | []=>rfl
 | v::r=>by simp only[b4o,AV.gh,Fa];exact JA id r
theorem OR.kill{c:Ctx}{G:Gh}{lk:Nat->Option aA}{w:World}{i:Nat}{o:aA}(h:OR c G lk w i o)(id:Nat):OR c G lk w i (o.kill id):=by
 cases o with
 | box cs =>
  obtain⟨b,l,t,h1,h2,h3⟩:=h;exact⟨b,l,t,h1,h2,aT.en _ (h3.imp λ u y _ hy=>hy.kill id)⟩
 | row e τ xs=>exact h
 | aw τ xs=>exact h
 | map m=>exact h
theorem NR(id:Nat)(o:Option aA):eJ o (o.map (aA.kill id)):=by
 refine⟨λ h=>?_,λ e τ xs h=>⟨e,xs,by rw[h];rfl,b4h _⟩,λ h=>?_,λ h=>?_⟩
 .match o,h with
  | some (.box cs),_=>rfl
 .match o,h with
  | some (.aw τ xs),_=>rfl
 .match o,h with
  | some (.map m),_=>rfl
theorem jy{id:Nat}{o:Option aA}{τ:Ty}{xs:List τ.den}(h:o.map (aA.kill id)=some (.aw τ xs)):o=some (.aw τ xs):=by
 match o,h with
 | some (.aw bf cR),h=>exact h
 | some (.box _),h=>cases h
 | some (.row ..),h=>cases h
theorem L0.sub{c:Ctx}{G:Gh}{lk lk':Nat->Option aA}{w:World}(h:L0 c G lk w)(ht:∀ id τ xs,lk' id=some (.aw τ xs)->lk id=some (.aw τ xs))(ho:∀ i o,lk' i=some o->∃ o',lk i=some o'):L0 c G lk' w where
 tr id τ xs k:=h.tr id τ xs (ht id τ xs k)
 nd id τ xs k:=h.nd id τ xs (ht id τ xs k)
 pl id τ xs b k hb:=by
  obtain⟨h1,h2,h3,h4⟩:=h.pl id τ xs b (ht id τ xs k) hb;exact⟨h1,h2,h3,λ i o hi=>(ho i o hi).elim λ o' cO=>h4 i o' cO⟩
 ap id dx τ bf xs cR b k k':=h.ap id dx τ bf xs cR b (ht id τ xs k) (ht dx bf cR k')
theorem bu.cp{c:Ctx}{G:Gh}{sl:Nat->AV}{n:Nat}{lk:Nat->Option aA}{a:Act}{w:World}(h:bu c G sl n lk a w)(id:Nat) :
  bu c G (λ i=>(sl i).kill id) n (λ i=>(lk i).map (aA.kill id)) a w:=by
 have h1:bu c G (λ i=>(sl i).kill id) n lk a w:=h.forget λ i=>a1F id (sl i);exact {
  defers:=h1.defers,size:=h1.size,aS:=h1.aS,jE:=h1.jE,ez:=h1.ez,sX:=h1.sX,dE:=h1.dE
  aC:=λ i=>(h1.aC i).mono (λ j _=>⟨NR id _,rfl⟩) (λ _ h=>h) (λ _ _=>rfl)
  aK:=λ i o ho=>by
   rw[b4t] at ho;obtain⟨o',cO,rfl⟩:=ho;exact ((h1.aK i o' cO).kill id).mono rfl (λ _ _=>rfl) (λ j _=>⟨NR id _,rfl⟩) (λ _ h=>h) (λ _ _=>rfl)
  place:=λ i o b ho hb=>by
   rw[b4t] at ho;obtain⟨o',cO,rfl⟩:=ho;exact h1.place i o' b cO hb
  apart:=λ i j o o' b ho cO hb cz=>by
   rw[b4t] at ho cO;obtain⟨p,hp,rfl⟩:=ho;obtain⟨q,hq,rfl⟩:=cO;exact h1.apart i j p q b hp hq hb cz
  aR:=h1.aR.sub (λ i τ xs k=>jy k) (λ i o k=>by
   rw[b4t] at k;obtain⟨p,hp,_⟩:=k;exact⟨p,hp⟩)
  root:=λ i v hr ht=>h1.root i v hr (by
   match hl:lk i,ht with
   | some (.aw ..),_=>rfl
   | some (.box _),ht=>simp[hl,aA.kill,cx] at ht
   | some (.row ..),ht=>simp[hl,aA.kill,cx] at ht
   | none,ht=>simp[hl,cx] at ht)
  iO:=h1.iO
  du:=λ i v hr ht=>h1.du i v hr (by
   match hl:lk i,ht with
   | some (.box _),_=>rfl
   | some (.aw ..),ht=>simp[hl,aA.kill,gf] at ht
   | some (.row ..),ht=>simp[hl,aA.kill,gf] at ht
   | none,ht=>simp[hl,gf] at ht)
  fc:=h1.fc }
theorem bu.a8v{c:Ctx}{G:Gh}{sl:Nat->AV}{n:Nat}{lk:Nat->Option aA}{a:Act}{w:World}(h:bu c G sl n lk a w)(id:Nat)
  (hs:∀ i,(sl i).refs id=false) (ho:∀ i o,lk i=some o->i≠id->o.refs id=false):bu c G sl n (λ i=>if i=id then none else lk i) a w:=by
 have eR:∀ j,j≠id->eJ (lk j) ((λ i=>if i=id then none else lk i) j):=λ j hj=>by simp only[b3H hj];exact eJ.refl _
 exact {
  defers:=h.defers,size:=h.size,aS:=h.aS,jE:=h.jE,ez:=h.ez,sX:=h.sX,dE:=h.dE
  aC:=λ i=>(h.aC i).mono (λ j hj=>⟨eR j (λ e=>by subst e;rw[hs i] at hj;cases hj),rfl⟩) (λ _ h=>h) (λ _ _=>rfl)
  aK:=λ i o cF=>by
   by_cases hi:i=id
   .simp[hi] at cF
   .simp only[b3H hi] at cF;exact (h.aK i o cF).mono rfl (λ _ _=>rfl) (λ j hj=>⟨eR j (λ e=>by subst e;rw[ho i o cF hi] at hj;cases hj),rfl⟩) (λ _ h=>h) (λ _ _=>rfl)
  place:=λ i o b cF hb=>by
   by_cases hi:i=id
   .simp[hi] at cF
   .simp only[b3H hi] at cF;exact h.place i o b cF hb
  apart:=λ i j o o' b cF Na hb cz=>by
   by_cases hi:i=id
   .simp[hi] at cF
   .by_cases hj:j=id
    .simp[hj] at Na
    .simp only[b3H hi] at cF;simp only[b3H hj] at Na;exact h.apart i j o o' b cF Na hb cz
  aR:=h.aR.sub (λ i τ xs k=>by
   by_cases hi:i=id
   .simp[hi] at k
   .simpa only[if_neg hi] using k) (λ i o k=>by
   by_cases hi:i=id
   .simp[hi] at k
   .exact⟨o,by simpa only[if_neg hi] using k⟩)
  root:=λ i v hr ht=>h.root i v hr (by
   by_cases hi:i=id
   .simp[hi,cx] at ht
   .simpa only[if_neg hi] using ht)
  iO:=h.iO
  du:=λ i v hr ht=>h.du i v hr (by
   by_cases hi:i=id
   .simp[hi,gf] at ht
   .simpa only[if_neg hi] using ht)
  fc:=h.fc }
theorem bu.newObj{c:Ctx}{G:Gh}{sl:Nat->AV}{n:Nat}{lk:Nat->Option aA}{a:Act}{w:World}(h:bu c G sl n lk a w)(id:Nat)(o:aA)(x:Value)
  (aZ:lk id=none) (hs:∀ i,(sl i).refs id=false) (ho:∀ i o,lk i=some o->o.refs id=false) (hor:o.refs id=false)
  (qU:OR c ⟨G.S,λ i=>if i=id then x else G.η i,G.φ⟩ (λ i=>if i=id then some o else lk i) w id o)
  (Tz:cx (some o)=false) (bK:gf (some o)=false\/id<400000) (jq:∀ b,eb x=some b->(c.w0.heap.size<=b\/c.X b)/\¬ G.S b/\b<w.heap.size/\(∀ i o',lk i=some o'->eb (G.η i)≠some b)/\∀ j τ xs,lk j=some (.aw τ xs)->b∉G.φ j) :
  bu c ⟨G.S,λ i=>if i=id then x else G.η i,G.φ⟩ sl n (λ i=>if i=id then some o else lk i) a w:=by
 have eR:∀ j,j≠id->eJ (lk j) ((λ i=>if i=id then some o else lk i) j)/\(if j=id then x else G.η j)=G.η j:=λ j hj=>by simp only[b3H hj];exact⟨eJ.refl _,ae⟩
 exact {
  defers:=h.defers,size:=h.size,aS:=h.aS,jE:=h.jE,ez:=h.ez,sX:=h.sX,dE:=h.dE
  aC:=λ i=>(h.aC i).mono (λ j hj=>eR j (λ e=>by subst e;rw[hs i] at hj;cases hj)) (λ _ h=>h) (λ _ _=>rfl)
  aK:=λ i o' cF=>by
   by_cases hi:i=id
   .subst hi;simp only[b5u,b3t] at cF;subst cF;exact qU
   .simp only[b3H hi] at cF;exact (h.aK i o' cF).mono (by simp only[b3H hi]) (λ _ _=>rfl) (λ j hj=>eR j (λ e=>by subst e;rw[ho i o' cF] at hj;cases hj)) (λ _ h=>h) (λ _ _=>rfl)
  place:=λ i o' b cF hb=>by
   by_cases hi:i=id
   .simp only[b4d hi] at hb;obtain⟨h1,h2,h3,_⟩:=jq b hb;exact⟨h1,h2,h3⟩
   .simp only[b3H hi] at cF hb;exact h.place i o' b cF hb
  apart:=λ i j o1 o2 b cF Na hb cz=>by
   by_cases hi:i=id
   .by_cases hj:j=id
    .rw[hi,hj]
    .simp only[b3H hj] at Na cz;simp only[b4d hi] at hb;exact absurd cz ((jq b hb).2.2.2.1 j o2 Na)
   .by_cases hj:j=id
    .simp only[b3H hi] at cF hb;simp only[b4d hj] at cz;exact absurd hb ((jq b cz).2.2.2.1 i o1 cF)
    .simp only[b3H hi] at cF hb;simp only[b3H hj] at Na cz;exact h.apart i j o1 o2 b cF Na hb cz
  aR:=by
   have hold:∀ j τ xs,(if j=id then some o else lk j)=some (.aw τ xs)->j≠id/\lk j=some (.aw τ xs):=λ j τ xs k=>by
    by_cases hj:j=id
    .rw[b4d hj] at k;cases k;cases Tz
    .rw[b3H hj] at k;exact⟨hj,k⟩
   exact {
    tr:=λ j τ xs k=>by
     obtain⟨h1,h2⟩:=hold j τ xs k;simp only[b3H h1];exact h.aR.tr j τ xs h2
    nd:=λ j τ xs k=>h.aR.nd j τ xs (hold j τ xs k).2
    pl:=λ j τ xs b k hb=>by
     obtain⟨h1,h2,h3,h4⟩:=h.aR.pl j τ xs b (hold j τ xs k).2 hb;refine⟨h1,h2,h3,λ i p wR=>?_⟩;by_cases hi:i=id
     .simp only[b4d hi];exact λ e=>(jq b e).2.2.2.2 j τ xs (hold j τ xs k).2 hb
     .simp only[b3H hi] at wR ⊢;exact h4 i p wR
    ap:=λ j j' τ bf xs cR b k k'=>h.aR.ap j j' τ bf xs cR b (hold j τ xs k).2 (hold j' bf cR k').2 }
  root:=λ i v hr ht=>by
   by_cases hi:i=id
   .simp only[b4d hi] at ht;rw[Tz] at ht;cases ht
   .simp only[b3H hi] at ht ⊢;exact h.root i v hr ht
  iO:=h.iO
  du:=λ i v hr ht=>by
   by_cases hi:i=id
   .subst hi;rcases bK with bK|bK
    .simp only[b5u] at ht;rw[bK] at ht;cases ht
    .have:=h.fc i v hr;omega
   .simp only[b3H hi] at ht ⊢;exact h.du i v hr ht
  fc:=h.fc }
theorem bu.a0r{c:Ctx}{G:Gh}{sl:Nat->AV}{n:Nat}{lk:Nat->Option aA}{a:Act}{w w':World}(h:bu c G sl n lk a w)(id:Nat)(o o':aA)(b:Nat)(aZ:lk id=some o)(hb:eb (G.η id)=some b)
  (eR:eJ (some o) (some o')) (Tz:cx (some o')=false) (hw:∀ k,k≠b->w'.heap[k]?=w.heap[k]?) (hos:w'.os=w.os) (a3i:w'.tape=w.tape) (Y4:w'.output=w.output) (Rn:w'.heap.size=w.heap.size)
  (qU:OR c G (λ i=>if i=id then some o' else lk i) w' id o'):bu c G sl n (λ i=>if i=id then some o' else lk i) a w':=by
 obtain⟨hp1,hp2,hp3⟩:=h.place id o b aZ hb;have cw:∀ k,St c G.S k->w'.heap[k]?=w.heap[k]?:=λ k hk=>hw k λ e=>by
  subst e;rcases hk with hk|hk
  .exact hp2 hk
  .exact hp1.elim (λ q=>by omega) hk.2.1
 have hs:∀ j,eJ (lk j) ((λ i=>if i=id then some o' else lk i) j):=λ j=>by
  by_cases hj:j=id
  .subst hj;simp only[b5u];rw[aZ];exact eR
  .simp only[b3H hj];exact eJ.refl _
 exact {
  defers:=h.defers,size:=h.size
  aS:=h.aS.trans (Y:=λ k=>c.w0.heap.size<=k\/c.X k) ⟨hos,a3i,Y4,Nat.le_of_eq Rn.symm,λ k _ hx=>hw k λ e=>by subst e;exact hx hp1⟩ λ i hi hy=>hy.elim (λ h=>by omega) (λ h=>h)
  jE:=h.jE,ez:=h.ez,sX:=h.sX
  dE:=λ k hk=>by rw[Rn];exact h.dE k hk
  aC:=λ i=>(h.aC i).mono (λ j _=>⟨hs j,rfl⟩) (λ _ h=>h) cw
  aK:=λ i p hp=>by
   by_cases hi:i=id
   .subst hi;simp only[b5u,b3t] at hp;subst hp;exact qU
   .simp only[b3H hi] at hp;exact (h.aK i p hp).mono rfl (λ k hk=>hw k λ e=>by subst e;exact hi (h.apart i id p o _ hp aZ hk hb)) (λ j _=>⟨hs j,rfl⟩) (λ _ h=>h) cw
  place:=λ i p k hp hk=>by
   rw[Rn];by_cases hi:i=id
   .subst hi;exact h.place i o k aZ hk
   .simp only[b3H hi] at hp;exact h.place i p k hp hk
  apart:=λ i j p q k hp hq hk lF=>by
   by_cases hi:i=id
   .by_cases hj:j=id
    .rw[hi,hj]
    .simp only[b3H hj] at hq;rw[hi] at hk ⊢;exact h.apart id j o q k aZ hq hk lF
   .simp only[b3H hi] at hp;by_cases hj:j=id
    .rw[hj] at lF ⊢;exact h.apart i id p o k hp aZ hk lF
    .simp only[b3H hj] at hq;exact h.apart i j p q k hp hq hk lF
  aR:=by
   have hold:∀ j τ xs,(if j=id then some o' else lk j)=some (.aw τ xs)->lk j=some (.aw τ xs):=λ j τ xs k=>by
    by_cases hj:j=id
    .rw[b4d hj] at k;cases k;cases Tz
    .rwa [b3H hj] at k
   exact {
    tr:=λ j τ xs k=>(h.aR.tr j τ xs (hold j τ xs k)).aS λ k' lF=>hw k' λ e=>by
     subst e;exact (h.aR.pl j τ xs _ (hold j τ xs k) lF).2.2.2 id o aZ hb
    nd:=λ j τ xs k=>h.aR.nd j τ xs (hold j τ xs k)
    pl:=λ j τ xs b' k cz=>by
     obtain⟨h1,h2,h3,h4⟩:=h.aR.pl j τ xs b' (hold j τ xs k) cz;refine⟨h1,h2,by rw[Rn];exact h3,λ i p wR=>?_⟩;by_cases hi:i=id
     .rw[hi];exact h4 id o aZ
     .rw[b3H hi] at wR;exact h4 i p wR
    ap:=λ j j' τ bf xs cR b' k k'=>h.aR.ap j j' τ bf xs cR b' (hold j τ xs k) (hold j' bf cR k') }
  root:=λ i v hr ht=>by
   by_cases hi:i=id
   .simp only[b4d hi] at ht;rw[Tz] at ht;cases ht
   .simp only[b3H hi] at ht;exact h.root i v hr ht
  iO:=h.iO
  du:=λ i v hr ht=>by
   by_cases hi:i=id
   .subst hi;simp only[b5u] at ht;refine h.du i v hr ?_;rw[aZ];cases o with
    | box cs=>rfl
    | row e τ xs=>obtain⟨e',cR,q,_⟩:=eR.2.1 e τ xs rfl;rw[q] at ht;cases ht
    | aw τ xs=>have h3:cx (some o')=true:=eR.2.2.1 rfl;rw[Tz] at h3;cases h3
    | map m =>
     obtain⟨b1,_,_,k1,_⟩:=h.aK i _ aZ;match o',ht with
     | .box cs,_ =>
      obtain⟨b2,_,_,k2,_⟩:=qU;rw[k1] at k2;cases k2
   .simp only[b3H hi] at ht;exact h.du i v hr ht
  fc:=h.fc }
def zG:Ty->Value->Bool
 | .int k, .int k' n=>decide (k=k')&&decide (n=0)
 | .bool, .bool b => !b
 | .str, .string s=>s.data.toList.isEmpty
 | .slice _, .slice none 0 0=>true
 | .ptr, .pointer none=>true
 | _,_=>false
def QN:List Ty->List Value->Bool
 | [],[]=>true
 | t::ts,v::vs=>zG t v&&QN ts vs
 | _,_=>false
def BB(τ:Ty)(v:Value):Bool :=
 match τ,v with
 | .st s, .agg cs=>QN s.s7 cs.toList
 | .st _,_=>false
 | τ,v=>zG τ v
def UE(P:Program)(T:TypeId)(τ:Ty):Bool :=
 match P.info? T with
 | some i=>Nat.beq i.size τ.size&&(match i.zero with
  | some z=>BB τ z
  | none=>false)
 | none=>false
def JT(E:Env)(s:aQ):Nat->List Field->List Ty->Bool
 | _,[],[]=>true
 | i,f::fs,t::ts=>(match ah E.ty f.type with
   | some (τ,_)=>decide (τ=t)
   | none=>false)&&Nat.beq f.offset (s.eW i)&&JT E s (i+1) fs ts
 | _,_,_=>false
def sU(P:Program)(E:Env)(T:TypeId)(τ:Ty)(b e:Nat):Bool :=
 UE P T τ&&match τ with
  | .int k=>match P.underlying T with
   | some (.int k')=>decide (k=k')
   | _=>false
  | .bool=>match P.underlying T with
   | some .bool=>true
   | _=>false
  | .str=>match P.underlying T with
   | some .string=>true
   | _=>false
  | .slice t=>match P.underlying T with
   | some (.slice e')=>Nat.beq e e'&&(match ah E.ty e with
     | some (bf,_)=>decide (bf=t)
     | none=>false)&&(match P.info? e with
     | some i=>Nat.beq i.bytes b
     | none=>false)&&UE P e t
   | _=>false
  | .st s=>match P.underlying T with
   | some (.struct fs)=>JT E s 0 fs.toList s.fu
   | _=>false
  | .mv _=>false
  | .ptr=>match P.underlying T with
   | some (.pointer _)=>true
   | _=>false
def WK(P:Program)(E:Env)(T:TypeId)(κ ε:Ty):Bool:=match P.underlying T with
 | some (.map k e)=>match ah E.ty k,ah E.ty e with
  | some (κ',_),some (ε',_)=>decide (κ'=κ)&&(decide (ε'=ε)&&(κ.key&&ε.key))
  | _,_=>false
 | _=>false
structure Info(P:Program)(T:TypeId)(τ:Ty):Prop where
 ex:∃ i z,P.info? T=some i/\i.size=τ.size/\i.zero=some z/\BB τ z=true
theorem a1E{P:Program}{T:TypeId}{τ:Ty}(h:UE P T τ=true):Info P T τ:=by
 unfold UE at h;split at h
 .rename_i i hi;simp only[b3A] at h;obtain⟨h1,h2⟩:=h;split at h2
  .rename_i z hz;exact⟨i,z,hi,b3x h1,hz,h2⟩
  .cases h2
 .cases h
def Ac(P:Program)(w:World)(S:Nat->Prop):Arg->Value->Prop
 | .c9 v,x=>∃ f eO l,x = .func (.func f) #[] l.toArray/\Eo P f eO v.ps v.r v.F []/\aT (LW w S) eO l
 | a,x=>LW w S a x
theorem Ac.of0{P:Program}{w:World}{S:Nat->Prop}{a:Arg}{x:Value}(h:LW w S a x):Ac P w S a x:=by
 cases a with
 | c9 v=>exact h.elim
 | own v=>exact h.elim
 | box k=>exact h.elim
 | _=>exact h
def gp(P:Program)(f:FuncId)(args:List Arg)(post:List TV->Prop):Prop :=
 ∀ (w:World) (S:Nat->Prop) (cA:List Value),ua w S->aT (Ac P w S) args cA ->
  Calls P f cA.toArray w λ e w'=>∃ x S' res,e = .returned x/\post res/\bC (λ _=>False) w w'/\(∀ b,b<w.heap.size->(S' b↔S b))/\(∀ b,S' b->b<w'.heap.size)/\HE w' S' res x
def Cr(w:World)(v:TV)(x:Value)(fp:List Nat):Prop :=
 match v with
 | ⟨.st s,y⟩=>∃ cs,x = .agg cs.toArray/\Ow w (s.aP y) cs fp
 | v=>Ow w v.aP [x] fp
def Od(w:World):List TV->List Value->List Nat->Prop
 | [],[],fp=>fp=[]
 | v::vs,x::xs,fp=>∃ f1 f2,fp=f1++f2/\Cr w v x f1/\Od w vs xs f2
 | _,_,_=>False
def tY(w:World):List TV->Value->List Nat->Prop
 | [v],x,fp=>Cr w v x fp
 | vs,x,fp=>∃ l,x = .tuple l.toArray/\Od w vs l fp
def tX(P:Program)(w:World)(S:Nat->Prop):List Arg->List Value->List Nat->Prop
 | [],[],fp=>fp=[]
 | a::Z9,x::xs,fp=>∃ f1 f2,fp=f1++f2/\(match a with
  | .own v=>Cr w v x f1
  | a=>f1=[]/\Ac P w S a x)/\tX P w S Z9 xs f2
 | _,_,_=>False
def rm(P:Program)(f:FuncId)(args:List Arg)(res:List TV):Prop :=
 ∀ (w:World) (S:Nat->Prop) (cA:List Value) (fa:List Nat),ua w S->tX P w S args cA fa->(fa=[]\/∀ a∈args,a.NW=true)->fa.Nodup->(∀ b∈fa,b<w.heap.size/\¬ S b) ->
  Calls P f cA.toArray w λ e w'=>∃ x fp,e = .returned x/\bC (λ b=>b∈fa) w w'/\tY w' res x fp/\fp.Nodup/\∀ b∈fp,b∈fa\/(w.heap.size<=b/\b<w'.heap.size)
theorem tX.W8{P:Program}{w:World}{S:Nat->Prop}:∀ {Z9:List Arg} {xs:List Value},aT (Ac P w S) Z9 xs->tX P w S Z9 xs []
 | [],[],_=>rfl
 | a::Z9,x::xs,h=>by
  refine⟨[],[],rfl,?_,tX.W8 h.2⟩;cases a with
  | own v=>exact h.1.elim
  | box k=>exact h.1.elim
  | _=>exact⟨rfl,h.1⟩
 | [],_::_,h=>h.elim
 | _::_,[],h=>h.elim
def JN(P:Program)(f:FuncId)(m:Cp):Prop :=
 ∀ (x:m.τ.den) (k:Int) (w:World) (v:Value) (fp:List Nat),(m.g x k).1.ok->O k->Gok w (λ b=>b<w.heap.size/\b∉fp)->Cr w ⟨m.τ,x⟩ v fp->fp.Nodup->(∀ b∈fp,b<w.heap.size) ->
  Calls P f #[v, .int .i64 k] w λ e w'=>e = .returned (.int .i64 (m.g x k).2.2)/\O (m.g x k).2.2/\bC (λ b=>b∈fp) w w'/\∃ wP,Cr w' ⟨m.τ,(m.g x k).2.1⟩ v wP/\wP.Nodup/\∀ b∈wP,b∈fp\/(w.heap.size<=b/\b<w'.heap.size)
def ja(w:World)(S:Nat->Prop)(B:Nat->Nat):List CK->List TV->List Value->List Nat->Prop
 | [],[],[],fp=>fp=[]
 | .d τ::ks,v::ds,x::xs,fp=>(v.τ=τ/\τ.agg=false/\Rd w S v.aP [x])/\ja w S B ks ds xs fp
 | .o τ::ks,v::ds,x::xs,fp=>∃ f1 f2,fp=f1++f2/\(v.τ=τ/\τ.agg=false/\Ow w v.aP [x] f1)/\ja w S B ks ds xs f2
 | .p j::ks,ds,x::xs,fp=>x = .pointer (some ⟨B j,0,none⟩)/\ja w S B ks ds xs fp
 | _,_,_,_=>False
def fE(w:World)(S:Nat->Prop)(B:Nat->Nat):Nat->List (List CK)->List (List TV)->List Nat->Prop
 | _,[],[],fp=>fp=[]
 | k,ks::sh,ds::bM,fp=>∃ l t f1 f2,fp=f1++f2/\w.heap[B k]?=some (.cells l.toArray t (0,0))/\ja w S B ks ds l f1/\fE w S B (k+1) sh bM f2
 | _,_,_,_=>False
def a9i(w:World)(S X:Nat->Prop):Arg->Value->Prop
 | .val v,x=>dZ w S v x
 | .ref v,x=>∃ b o cs,x = .pointer (some ⟨b,o,none⟩)/\b<w.heap.size/\¬ X b/\cd w b o cs/\Rd w S v.aP cs
 | .fn f,x=>x = .func (.func f) #[] #[]
 | _,_=>False
def Yr(P:Program)(w:World)(S X:Nat->Prop)(B:Nat->Nat):Arg->Value->Prop
 | .box k,x=>x = .pointer (some ⟨B k,0,none⟩)
 | .val v,x=>dZ w S v x
 | .ref v,x=>∃ b o cs,x = .pointer (some ⟨b,o,none⟩)/\b<w.heap.size/\¬ X b/\cd w b o cs/\Rd w S v.aP cs
 | .fn f,x=>x = .func (.func f) #[] #[]
 | .c9 v,x=>∃ f eO l,x = .func (.func f) #[] l.toArray/\Eo P f eO v.ps v.r v.F []/\aT (a9i w S X) eO l
 | .own _,_=>False
def BX(n:Nat)(B:Nat->Nat)(fa:List Nat)(b:Nat):Prop:=b∈fa\/∃ k,k<n/\b=B k
def ZE(P:Program)(f:FuncId)(sh:List (List CK))(res:List TV)(dJ:List (List TV))(w:World)(S:Nat->Prop)(B:Nat->Nat)(cA:List Value)(fa:List Nat):Prop :=
 Calls P f cA.toArray w λ e w'=>∃ x S' fp KB,e = .returned x/\bC (BX sh.length B fa) w w'/\(∀ b,S b->S' b)/\(∀ b,S' b->b<w'.heap.size)/\(∀ b,b<w.heap.size->¬ BX sh.length B fa b->(S' b↔S b)) /\
  tY w' res x fp/\fE w' S' B 0 sh dJ KB/\(fp++KB).Nodup/\(∀ b∈fp++KB,(b∈fa\/(w.heap.size<=b/\b<w'.heap.size))/\¬ S' b/\∀ k,k<sh.length->B k≠b)/\∀ k,k<sh.length->¬ S' (B k)
def Oc(P:Program)(f:FuncId)(sh:List (List CK))(args:List Arg)(bM:List (List TV))(res:List TV)(dJ:List (List TV)):Prop :=
 ∀ (w:World) (S:Nat->Prop) (B:Nat->Nat) (cA:List Value) (fa:List Nat),ua w S->fE w S B 0 sh bM fa->fa.Nodup->(∀ b∈fa,b<w.heap.size/\¬ S b/\∀ k,k<sh.length->B k≠b) ->
  (∀ k,k<sh.length->B k<w.heap.size/\¬ S (B k))->(∀ j k,j<sh.length->k<sh.length->B j=B k->j=k)->aT (Yr P w S (BX sh.length B fa) B) args cA->ZE P f sh res dJ w S B cA fa
theorem gp.ok0{P:Program}{f:FuncId}{args:List Arg}{post:List TV->Prop}(h:gp P f args post):Ob P f args post :=
 λ w S cA hS ha=>h w S cA hS (ha.imp λ _ _ _ hx => .of0 hx)
def a6h(w:World)(S T:Nat->Prop)(x:Value):a0L->Prop
 | .box cells=>∃ b l t,x = .pointer (some ⟨b,0,none⟩)/\w.heap[b]?=some (.cells l.toArray t (0,0))/\aT (λ v x=>v.τ.agg=false/\Rd w S v.aP [x]) cells l
 | .row e τ xs=>∃ l,w.ownsRow 0 e τ.size x xs.length l/\dT w S (xs.map τ.aP) l/\xs.length<=140737488355328
 | .res l=>∃ ys,x = .tuple ys.toArray/\aT (λ r x=>match r with
  | (true,v)=>∃ b o cs,x = .pointer (some ⟨b,o,none⟩)/\(S b\/T b)/\cd w b o cs/\Rd w S v.aP cs
  | (false,v)=>dZ w S v x) l ys
def a2u(P:Program)(f:FuncId)(args:List Arg)(o:a0L):Prop :=
 ∀ (w:World) (S T:Nat->Prop) (cA:List Value),ua w S->(∀ x∈cA,∀ a:Addr,x = .pointer (some a)->T a.block)->aT (Ac P w S) args cA ->
  Calls P f cA.toArray w λ e w'=>∃ x S',e = .returned x/\bC (λ _=>False) w w'/\(∀ k,k<w.heap.size->(S' k↔S k))/\(∀ k,S' k->k<w'.heap.size) /\
   (∀ b,eb x=some b->w.heap.size<=b/\b<w'.heap.size/\¬ S' b)/\a6h w' S' T x o
def ZS (P:Program) (T:TypeId):Bool := !P.eqGuardType P.depth T&&(!P.stoodInHeld T&&(P.fieldsOf T).toList.all λ f=>decide (f.name ≠ "_"))
structure bE(P:Program)(E:Env):Prop where
 ty:∀ T τ b e,ah E.ty T=some (τ,b,e)->sU P E T τ b e=true
 mty:∀ T κ ε,ah E.mty T=some (κ,ε)->WK P E T κ ε=true
 pty:∀ T τ,ah E.pty T=some τ->True
 Q7:∀ f args pre res,E.Q7 f args=some (pre,res)->pre.ok->jG P f/\gp P f args (·=res)
 Qh:∀ f args pre res,E.Qh f args=some (pre,res)->pre.ok->jG P f/\rm P f args res
 mark:∀ f m,E.mark f=some m->jG P f/\JN P f m
 WX:∀ f args pre o,E.WX f args=some (pre,o)->pre.ok->jG P f/\a2u P f args o
 cmp:∀ T,E.cmp.contains T=true->ZS P T=true
 Zu:∀ f sk args bM pre res dJ,E.sk f=some sk->E.Zu f args bM=some (pre,res,dJ)->pre.ok->jG P f/\Oc P f sk.sh args bM res dJ
section
variable {P:Program} {E:Env} {T:TypeId} {τ:Ty} {b e:Nat}
theorem bE.info(hE:bE P E)(h:ah E.ty T=some (τ,b,e)):Info P T τ:=by
 have:=hE.ty _ _ _ _ h;unfold sU at this;simp only[Bool.and_eq_true] at this;exact a1E this.1
theorem bE.int(hE:bE P E){k:IntKind}(h:ah E.ty T=some (.int k,b,e)):P.underlying T=some (.int k):=by
 have:=hE.ty _ _ _ _ h;unfold sU at this;simp only[Bool.and_eq_true] at this;have h2:=this.2;split at h2
 .rename_i k' hk;rw[hk,b4l h2]
 .cases h2
theorem bE.bool(hE:bE P E)(h:ah E.ty T=some (.bool,b,e)):P.underlying T=some .bool:=by
 have:=hE.ty _ _ _ _ h;unfold sU at this;simp only[Bool.and_eq_true] at this;have h2:=this.2;split at h2
 .assumption
 .cases h2
theorem bE.str(hE:bE P E)(h:ah E.ty T=some (.str,b,e)):P.underlying T=some .string:=by
 have:=hE.ty _ _ _ _ h;unfold sU at this;simp only[Bool.and_eq_true] at this;have h2:=this.2;split at h2
 .assumption
 .cases h2
theorem bE.slice(hE:bE P E){t:Ty}(h:ah E.ty T=some (.slice t,b,e)) :
  P.underlying T=some (.slice e)/\(∃ b' e',ah E.ty e=some (t,b',e'))/\(∃ i z,P.info? e=some i/\i.size=t.size/\i.bytes=b/\i.zero=some z/\BB t z=true):=by
 have:=hE.ty _ _ _ _ h;unfold sU at this;simp only[Bool.and_eq_true] at this;have h2:=this.2;split at h2
 .rename_i e' Dh;simp only[b3A] at h2;obtain⟨⟨⟨h3,h4⟩,h5⟩,h6⟩:=h2;have h3:=b3x h3;subst h3;split at h4
  .rename_i bf r hl;have h4:=b4l h4;subst h4;obtain⟨i,z,hi,hs,hz,hzo⟩:=(a1E h6).ex;rw[hi] at h5;exact⟨Dh,⟨_,_,hl⟩,i,z,hi,hs,b3x h5,hz,hzo⟩
  .cases h4
 .cases h2
theorem O0{s:aQ}:∀ (n:Nat) (fs:List Field) (ts:List Ty),JT E s n fs ts=true->fs.length=ts.length /\
  ∀ i f,fs[i]?=some f->∃ t b e,ts[i]?=some t/\ah E.ty f.type=some (t,b,e)/\f.offset=s.eW (n+i)
 | _,[],[],_=>⟨rfl,by simp⟩
 | n,f::fs,t::ts,h=>by
  simp only[JT,b3A] at h;obtain⟨⟨h1,h2⟩,h3⟩:=h;obtain⟨h4,h5⟩:=O0 (n+1) fs ts h3;refine⟨by simp[h4],λ i g hi=>?_⟩;cases i with
  | zero =>
   simp at hi;subst hi;split at h1
   .rename_i τ r hl;have h1:=b4l h1;subst h1;exact⟨_,_,_,rfl,hl,b3x h2⟩
   .cases h1
  | succ i =>
   obtain⟨t',b',e',k1,k2,k3⟩:=h5 i g (by simpa using hi);exact⟨t',b',e',by simpa using k1,k2,by rw[k3];congr 1;omega⟩
 | _,[],_::_,h=>by cases h
 | _,_::_,[],h=>by cases h
theorem bE.st(hE:bE P E){s:aQ}(h:ah E.ty T=some (.st s,b,e)) :
  ∃ fs,P.underlying T=some (.struct fs)/\fs.size=s.fu.length/\∀ i f,fs[i]?=some f->∃ t b e,s.fu[i]?=some t/\ah E.ty f.type=some (t,b,e)/\f.offset=s.eW i:=by
 have:=hE.ty _ _ _ _ h;unfold sU at this;simp only[Bool.and_eq_true] at this;have h2:=this.2;split at h2
 .rename_i fs hfs;obtain⟨h3,h4⟩:=O0 0 _ _ h2;refine⟨fs,hfs,by simpa using h3,λ i f hi=>?_⟩;obtain⟨t,b',e',k1,k2,k3⟩:=h4 i f (by simpa using hi);exact⟨t,b',e',k1,k2,by simpa using k3⟩
 .cases h2
theorem bE.a7A(hE:bE P E){t:Ty}(h:ah E.ty T=some (.mv t,b,e)):False:=by
 have:=hE.ty _ _ _ _ h;unfold sU at this;simp at this
theorem bE.ptr(hE:bE P E)(h:ah E.ty T=some (.ptr,b,e)):∃ t,P.underlying T=some (.pointer t):=by
 have:=hE.ty _ _ _ _ h;unfold sU at this;simp only[Bool.and_eq_true] at this;have h2:=this.2;split at h2
 .rename_i t ht;exact⟨t,ht⟩
 .cases h2
theorem bE.isAgg(hE:bE P E)(h:ah E.ty T=some (τ,b,e))(w:World):(isAgg T).run P w = .ok τ.agg w:=by
 cases τ with
 | int k=>simp[Go.isAgg,b4v (hE.int h)];rfl
 | bool=>simp[Go.isAgg,b4v (hE.bool h)];rfl
 | str=>simp[Go.isAgg,b4v (hE.str h)];rfl
 | slice t=>simp[Go.isAgg,b4v (hE.slice h).1];rfl
 | st s=>obtain⟨fs,h1,_⟩:=hE.st h;simp[Go.isAgg,b4v h1];rfl
 | mv t=>exact (hE.a7A h).elim
 | ptr=>obtain⟨t,ht⟩:=hE.ptr h;simp[Go.isAgg,b4v ht];rfl
theorem bE.sizeOf(hE:bE P E)(h:ah E.ty T=some (τ,b,e))(w:World):(sizeOf T).run P w = .ok τ.size w:=by
 obtain⟨i,z,h1,h2,_⟩:=(hE.info h).ex;simp[Go.sizeOf,typeInfo,h1,h2]
theorem Ty.jC{τ:Ty}(h:τ.agg=false):τ.size=1:=by cases τ<;>first|rfl|cases h
theorem aQ.size_pos(s:aQ):0<s.size:=by cases s<;>decide
theorem Ty.size_pos(τ:Ty):0<τ.size:=by cases τ<;>first|exact Nat.one_pos|exact aQ.size_pos _
def La(τ:Ty)(cs:List Value):Value :=
 match τ with
 | .st _ => .agg cs.toArray
 | _=>cs.getD 0 undef
theorem jM(hE:bE P E)(h:ah E.ty T=some (τ,b,e)){w:World}{bk o:Nat}{cs:List Value}(hc:cd w bk o cs)(hl:cs.length=τ.size) :
  (Instr.loadAt T (.pointer (some ⟨bk,o,none⟩))).run P w = .ok (La τ cs) w:=by
 have Tw:∀ j v,cs[j]?=some v->w.cell? ((⟨bk,o,none⟩:Addr).add j)=some v:=λ j v hj=>by rw[b5J];exact hc j v hj
 simp only[Instr.loadAt,Instr.sureAddr,loadVar,b4c,b4i,b3X,hE.isAgg h];cases jr:τ.agg with
 | true =>
  simp only[b5u,b4c,hE.sizeOf h,b3X];rw[<-hl,run_loadCells_list w _ cs Tw];cases τ<;>first|rfl|cases jr
 | false =>
  have h1:cs.length=1:=hl.trans (Ty.jC jr);match cs,h1 with
  | [v],_ =>
   have:=hc 0 v rfl;simp only[b5s] at this;simp[run_load,this];cases τ<;>first|rfl|cases jr
end
section
variable {c:Ctx} {G:Gh} {lk:Nat->Option aA} {w:World}
theorem C1.fT{v:AV}{x:Value}(h:C1 c G lk w v x):VR c G lk w v x:=by
 cases v with
 | aF v =>
  obtain⟨τ,y⟩:=v;cases τ with
  | st s=>cases h.1
  | _=>exact h.2
 | agg cs=>exact h.elim
 | iP vs=>exact h.elim
 | c9 f cs=>exact h.elim
 | _=>exact h
theorem VR.Zy{v:AV}{x:Value}(h:VR c G lk w v x)(hc:v.cell=true):C1 c G lk w v x:=by
 cases v with
 | aF v =>
  obtain⟨τ,y⟩:=v;cases τ with
  | st s=>cases hc
  | _=>exact⟨rfl,h⟩
 | agg cs=>cases hc
 | iP vs=>cases hc
 | c9 f cs=>cases hc
 | any=>cases hc
 | _=>exact h
theorem jx{v:TV}(h:v.τ.agg=false):v.aP.leaf=true:=by
 obtain⟨τ,y⟩:=v;cases τ<;>first|rfl|exact R1 _ _ _|cases h
theorem C1.leaf{v:AV}{x:Value}(h:C1 c G lk w v x)(hc:v.cell=true):x.oneCell'=true/\x.cells = #[x]:=by
 cases v with
 | any=>cases hc
 | ei=>cases hc
 | agg cs=>cases hc
 | iP cs=>cases hc
 | c9 f cs=>cases hc
 | iC v=>cases hc
 | aF v =>
  obtain⟨y,h1,h2⟩:=Rd.uY (jx h.1) h.2;simp only[b3F,b3L] at h1;subst h1;exact⟨Bf h2,PY h2⟩
 | nil=>rw[show x=_ from h];exact⟨rfl,rfl⟩
 | cZ v=>obtain⟨b,o,cs,rfl,_⟩:=h;exact⟨rfl,rfl⟩
 | ptr i o=>obtain⟨b,_,rfl,_⟩:=h;exact⟨rfl,rfl⟩
 | row i=>obtain⟨_,_,a,n,m,rfl⟩:=h;exact⟨rfl,rfl⟩
 | aw i=>obtain⟨_,_,_,a,n,m,rfl⟩:=h;exact⟨rfl,rfl⟩
 | sub i k o z=>obtain⟨_,_,_,_,_,_,_,_,a,n,m,rfl⟩:=h;exact⟨rfl,rfl⟩
 | eP i k o z=>cases hc
 | eG i k o=>obtain⟨b,n,cap,e,τ,xs,_,_,_,rfl⟩:=h;exact⟨rfl,rfl⟩
 | fn f=>rw[show x=_ from h];exact⟨rfl,rfl⟩
 | mp i=>obtain⟨_,_,b,rfl⟩:=h;exact⟨rfl,rfl⟩
theorem dZ.cells{S:Nat->Prop}{v:TV}{x:Value}(h:dZ w S v x):Rd w S v.aP x.cells.toList:=by
 obtain⟨τ,y⟩:=v;cases τ with
 | st s =>
  obtain⟨cs,rfl,h⟩:=h;show Rd w S (s.aP y) _;simpa [Value.cells] using h
 | _ =>
  obtain⟨z,h1,h2⟩:=Rd.uY (jx rfl) h;simp only[b3F,b3L] at h1;subst h1;rw[PY h2];exact h
theorem dZ.mk_{S:Nat->Prop}{v:TV}{cs:List Value}(h:Rd w S v.aP cs):dZ w S v (La v.τ cs):=by
 obtain⟨τ,y⟩:=v;cases τ with
 | st s=>exact⟨cs,rfl,h⟩
 | _ =>
  obtain⟨z,rfl,h2⟩:=Rd.uY (jx rfl) h;exact h
def SX(G:Gh)(lk:Nat->Option aA)(b:Nat):Prop:=G.S b\/(∃ id e τ xs,lk id=some (.row e τ xs)/\eb (G.η id)=some b)\/∃ id τ xs,lk id=some (.aw τ xs)/\b∈G.φ id
theorem bu.a2p{c:Ctx}{G:Gh}{sl:Nat->AV}{n:Nat}{lk:Nat->Option aA}{a:Act}{w:World}(h:bu c G sl n lk a w):ua w (SX G lk) :=
 ⟨λ b q=>by
  rcases q with hb|⟨id,e,τ,ys,aZ,hb⟩|⟨id,τ,ys,aZ,hb⟩
  .exact h.dE b hb
  .exact (h.place id _ b aZ hb).2.2
  .exact (h.aR.pl id _ _ b aZ hb).2.2.1,h.sOk.2.mono (λ _ q => .inl q) λ _ _=>rfl⟩
theorem SX.of{b:Nat}(h:G.S b):SX G lk b := .inl h
theorem a4W{id:Nat}{e:TypeId}{τ:Ty}{xs:List τ.den}(ho:OR c G lk w id (.row e τ xs))(aZ:lk id=some (.row e τ xs)):Rd w (SX G lk) (Ty.aP (.slice τ) xs) [G.η id]:=by
 obtain⟨l,h1,h2,h3⟩:=ho;rcases h1.2 with ⟨hv,hn⟩|⟨g,cap,cur,hv,_,hh,XZ,hcm,ka,htk⟩
 .have hx:xs=[]:=b4C hn;subst hx;exact⟨none,0,by simp[hv],by simp,by simp[maxLen],by simp, .inl rfl⟩
 .refine⟨some ⟨g,0,none⟩,cap,by simp[hv],by simpa using XZ,hcm,by simpa using h3,?_⟩;refine .inr ⟨g,0,rfl, .inr (.inl ⟨id,e,τ,xs,aZ,by rw[hv];rfl⟩),?_⟩;refine dT.row _ g 0 (h2.aS (λ _ h=>SX.of h) (λ _ _=>rfl)) λ j v hj=>?_;have:=h1.cells (g:=g) (by rw[hv];rfl) j v hj;rw[Addr.add_lit] at this;exact this
theorem iq.rd{S:Nat->Prop}{η:Value}{τ:Ty}{xs:List τ.den}{fp:List Nat}(h:iq w η τ xs fp){x:Value}{l:List Value}(hx:η = .tuple (x::l).toArray)(hS:∀ b∈fp,S b):Rd w S (Ty.aP (.slice τ) xs) [x]:=by
 obtain⟨v,l',a,cap,h1,h2,h3,h4,h5,h6⟩:=h;rw[hx] at h1;simp only[Value.tuple.injEq,List.toArray_inj,List.cons.injEq] at h1;obtain⟨rfl,rfl⟩:=h1;refine⟨a,cap,by simp[h2],by simpa using h3,h4,by simpa using h5,?_⟩;rcases h6 with ⟨rfl,_,_⟩|⟨b,f,t,rfl,rfl,k1,_,k2⟩
 .exact .inl rfl
 .exact .inr ⟨b,0,rfl,hS b (by simp),bQ.rd _ (p:=[]) (by simpa using k1) k2 λ b hb=>hS b (by simp[hb])⟩
theorem a8h(Ho:L0 c G lk w){id:Nat}{τ:Ty}{xs:List τ.den}{x:Value}(aZ:lk id=some (.aw τ xs))(hx:C1 c G lk w (.aw id) x):Rd w (SX G lk) (Ty.aP (.slice τ) xs) [x]:=by
 obtain⟨_,l,h2,_⟩:=hx;exact (Ho.tr id τ xs aZ).rd h2 λ b hb => .inr (.inr ⟨id,τ,xs,aZ,hb⟩)
theorem b0f(Ho:L0 c G lk w)(lq:∀ id o,lk id=some o->OR c G lk w id o){lk':Nat->Option aA}(cr:∀ id o,lk' id=some o->lk id=some o){τ:Ty}{v:AV}{x:Value}{y:τ.den}(h:jH lk' τ v=some y)
  (hv:C1 c G lk w v x):Rd w (SX G lk) (τ.aP y) [x]:=by
 cases v with
 | aF u =>
  have e:=TV.aW h;subst e;exact Rd.aS (λ _ h=>SX.of h) (λ _ _=>rfl) _ hv.2
 | nil =>
  cases τ with
  | slice t =>
   simp only[jH,b3t] at h;subst h;exact⟨none,0,by rw[show x=_ from hv];rfl,by simp,by simp[maxLen],by simp, .inl rfl⟩
  | _=>cases h
 | row id =>
  simp only[jH] at h;split at h
  .rename_i e bf xs hl;have e1:=TV.aW h;cases e1;have nP:=cr _ _ hl;rw[hv.1];exact a4W (lq _ _ nP) nP
  .cases h
 | aw id =>
  simp only[jH] at h;split at h
  .rename_i bf xs hl;have e1:=TV.aW h;cases e1;exact a8h Ho (cr _ _ hl) hv
  .cases h
 | _=>cases h
theorem a8q{lk':Nat->Option aA}(gm:∀ id e τ xs,lk' id≠some (.row e τ xs))(Tz:∀ id τ xs,lk' id≠some (.aw τ xs)){τ:Ty}{v:AV}{x:Value}{y:τ.den}(h:jH lk' τ v=some y)(hv:C1 c G lk w v x):Rd w G.S (τ.aP y) [x]:=by
 cases v with
 | aF u =>
  have e:=TV.aW h;subst e;exact hv.2
 | nil =>
  cases τ with
  | slice t =>
   simp only[jH,b3t] at h;subst h;exact⟨none,0,by rw[show x=_ from hv];rfl,by simp,by simp[maxLen],by simp, .inl rfl⟩
  | _=>cases h
 | row id =>
  simp only[jH] at h;split at h
  .rename_i hl;exact absurd hl (gm _ _ _ _)
  .cases h
 | aw id =>
  simp only[jH] at h;split at h
  .rename_i hl;exact absurd hl (Tz _ _ _)
  .cases h
 | _=>cases h
theorem Ux{τ:Ty}{v:AV}{x:Value}{y:τ.den}(h:jH (λ _=>none) τ v=some y)(hv:C1 c G lk w v x):Rd w G.S (τ.aP y) [x]:=by
 cases v with
 | aF u =>
  have e:=TV.aW h;subst e;exact hv.2
 | nil =>
  cases τ with
  | slice t =>
   simp only[jH,b3t] at h;subst h;exact⟨none,0,by rw[show x=_ from hv];rfl,by simp,by simp[maxLen],by simp, .inl rfl⟩
  | _=>cases h
 | _=>cases h
theorem Sx{lk':Nat->Option aA}{R:TV->Value->Prop}{Q:AV->Value->Prop}(hR:∀ t v x y,jH lk' t v=some y->Q v x->R ⟨t,y⟩ x):∀ {cs:List AV} {ts:List Ty} {l:List TV} {vs:List Value},U8 lk' cs ts=some l->aT Q cs vs->aT R l vs
 | [],[],l,vs,h,k=>by
  simp only[U8,b3t] at h;subst h;match vs,k with
  | [],_=>trivial
 | v::cs,t::ts,l,vs,h,k=>by
  simp only[U8] at h;split at h
  .rename_i x hx;split at h
   .rename_i r hr;simp only[b3t] at h;subst h;match vs,k with
    | u::us,k=>exact⟨hR _ _ _ _ hx k.1,Sx hR hr k.2⟩
   .cases h
  .cases h
 | [],_::_,_,_,h,_=>by cases h
 | _::_,[],_,_,h,_=>by cases h
theorem L2{S:Nat->Prop}{lk':Nat->Option aA}(h1:∀ τ v x (y:τ.den),jH lk' τ v=some y->C1 c G lk w v x->Rd w S (τ.aP y) [x])(hS:∀ b,G.S b->S b)
  {τ:Ty} {v:AV} {x:Value} {y:τ.den} (h:zI lk' τ v=some y) (hv:VR c G lk w v x):dZ w S ⟨τ,y⟩ x:=by
 have nB:∀ (p6:∀ cs,v ≠ .agg cs),jH lk' τ v=some y->dZ w S ⟨τ,y⟩ x:=by
  intro p6 ha;cases v with
  | aF u =>
   have e:=TV.aW ha;subst e;exact dZ.mono (G:=G) (G':=⟨S,G.η,G.φ⟩) hv hS (λ _ _=>rfl)
  | nil =>
   have:=h1 τ .nil x y ha hv;cases τ with
   | st s=>cases ha
   | _=>exact this
  | row i =>
   have:=h1 τ (.row i) x y ha hv;cases τ with
   | st s =>
    simp only[jH] at ha;split at ha
    .have e:=TV.aW ha;cases e
    .cases ha
   | _=>exact this
  | aw i =>
   have:=h1 τ (.aw i) x y ha hv;cases τ with
   | st s =>
    simp only[jH] at ha;split at ha
    .have e:=TV.aW ha;cases e
    .cases ha
   | _=>exact this
  | agg cs=>exact absurd rfl (p6 cs)
  | _=>cases ha
 cases v with
 | agg cs =>
  cases τ with
  | st s =>
   simp only[zI] at h;split at h
   .rename_i l hl;obtain⟨vs,rfl,B0⟩:=hv;refine⟨vs,rfl,?_⟩;rw[aQ.ct,aQ.nV h];exact dh.dH.2 (Sx (λ t u z k hk hz=>h1 t u z k hk hz) hl B0)
   .cases h
  | _=>cases h
 | _=>exact nB (by intro cs;simp) h
theorem Ag(Ho:L0 c G lk w)(lq:∀ id o,lk id=some o->OR c G lk w id o){lk':Nat->Option aA}(cr:∀ id o,lk' id=some o->lk id=some o){τ:Ty}{v:AV}{x:Value}{y:τ.den}(h:zI lk' τ v=some y)
  (hv:VR c G lk w v x):dZ w (SX G lk) ⟨τ,y⟩ x :=
 L2 (λ τ v x y h hv=>b0f Ho lq cr h hv) (λ _ h=>SX.of h) h hv
theorem HH{lk':Nat->Option aA}(gm:∀ id e τ xs,lk' id≠some (.row e τ xs))(Tz:∀ id τ xs,lk' id≠some (.aw τ xs)){τ:Ty}{v:AV}{x:Value}{y:τ.den}(h:zI lk' τ v=some y)(hv:VR c G lk w v x):dZ w G.S ⟨τ,y⟩ x :=
 L2 (λ τ v x y h hv=>a8q gm Tz h hv) (λ _ h=>h) h hv
theorem Om{τ:Ty}{v:AV}{x:Value}{y:τ.den}(h:zI (λ _=>none) τ v=some y)(hv:VR c G lk w v x):dZ w G.S ⟨τ,y⟩ x :=
 L2 (λ τ v x y h hv=>Ux h hv) (λ _ h=>h) h hv
theorem BG{τ:Ty}{v:AV}{x:Value}{new:List AV}(h:cellsOf τ v=some new)(hv:VR c G lk w v x) :
  aT (C1 c G lk w) new x.cells.toList/\(∀ u∈x.cells.toList,u.oneCell'=true)/\new.length=τ.size:=by
 have one:v.cell=true->new=[v]->τ.size=1->aT (C1 c G lk w) new x.cells.toList/\(∀ u∈x.cells.toList,u.oneCell'=true)/\new.length=τ.size:=by
  intro hc hn hs;subst hn;have h1:=hv.Zy hc;obtain⟨h2,h3⟩:=h1.leaf hc;rw[h3];exact⟨⟨h1,ae⟩,by simpa using h2,by simp[hs]⟩
 cases τ with
 | st s =>
  simp only[cellsOf] at h;split at h
  .rename_i u;split at h
   .rename_i y hy;simp only[b3t] at h;subst h;have e:=TV.aW hy;subst e;obtain⟨cs,rfl,hr⟩:=hv;rw[aQ.ct] at hr;have ha:=dh.dH.1 hr;refine⟨?_,?_,by simp[Ty.size,aQ.iS]⟩
    .simp only[Value.cells];refine aT.en _ (ha.imp λ u z hu hz=>⟨?_,hz⟩);have:=aQ.po s y u hu;obtain⟨bf,z'⟩:=u;cases bf with
     | st s'=>simp[TV.aP,Ty.aP,aQ.ct,D.leaf] at this
     | _=>rfl
    .simp only[Value.cells];intro u hu;obtain⟨i,hi,hiu⟩:=b6j hu;have hlen:=ha.length;obtain⟨b,hb,Nc⟩:=ha.at_ i (s.cells y)[i] (b3Z (by omega));have cz:b=u:=by
      have:cs[i]?=some u:=by rw[b3Z hi,hiu]
      rw[this] at hb;exact (b6l hb).symm
     subst cz;obtain⟨z,h1,h2⟩:=Rd.uY (aQ.po s y _ (b4Q _)) Nc;simp only[b3F,b3L] at h1;subst h1;exact Bf h2
   .cases h
  .rename_i cs;split at h
   .rename_i hb;simp only[Option.some.injEq] at h;subst h;simp only[Bool.and_eq_true] at hb;obtain⟨l,rfl,hl⟩:=hv;refine⟨by simpa [Value.cells] using hl,?_,by simpa [Ty.size] using Nat.eq_of_beq_eq_true hb.1⟩;simp only[Value.cells];intro u hu;obtain⟨i,hi,hiu⟩:=List.getElem_of_mem hu;have hlen:=hl.length;obtain⟨b,cz,Nc⟩:=hl.at_ i cs[i] (List.getElem?_eq_getElem (by omega));have hbu:b=u:=by
     have:l[i]?=some u:=by rw[b3Z hi,hiu]
     rw[this] at cz;exact (b6l cz).symm
    subst hbu;exact (Nc.leaf (b4r.1 hb.2 _ (b4Q _))).1
   .cases h
  .cases h
 | int k =>
  simp only[cellsOf] at h;split at h
  .rename_i hc;simp only[b3t] at h;exact one hc h.symm rfl
  .cases h
 | bool =>
  simp only[cellsOf] at h;split at h
  .rename_i hc;simp only[b3t] at h;exact one hc h.symm rfl
  .cases h
 | str =>
  simp only[cellsOf] at h;split at h
  .rename_i hc;simp only[b3t] at h;exact one hc h.symm rfl
  .cases h
 | ptr =>
  simp only[cellsOf] at h;split at h
  .rename_i hc;simp only[b3t] at h;exact one hc h.symm rfl
  .cases h
 | mv t =>
  simp only[cellsOf] at h;split at h
  .rename_i hc;simp only[b3t] at h;exact one hc h.symm rfl
  .cases h
 | slice t =>
  simp only[cellsOf] at h;split at h
  .rename_i hc;simp only[b3t] at h;exact one hc h.symm rfl
  .cases h
theorem Im{cs:List AV}{l:List Value}(hl:aT (C1 c G lk w) cs l){off:Nat}{τ:Ty}{u:AV}(h:JU cs off τ=some u) :
  VR c G lk w u (La τ ((l.drop off).take τ.size))/\((l.drop off).take τ.size).length=τ.size/\off+τ.size<=l.length:=by
 have hlen:=hl.length;have one:τ.size=1->(∀ s,τ ≠ .st s)->cs[off]?=some u->VR c G lk w u (La τ ((l.drop off).take τ.size))/\((l.drop off).take τ.size).length=τ.size/\off+τ.size<=l.length:=by
  intro hs cw hu;obtain⟨x,hx,hr⟩:=hl.at_ off u hu;have bK:off<l.length:=(b4p.1 hx).1;have he:(l.drop off).take 1=[x]:=by
   rw[b5m bK];have:=(b4p.1 hx).2;simp[this]
  rw[hs,he];refine⟨?_,rfl,by omega⟩;have:La τ [x]=x:=by cases τ<;>first|rfl|exact absurd rfl (cw _)
  rw[this];exact hr.fT
 cases τ with
 | st s =>
  simp only[JU] at h;split at h
  .rename_i hb;simp only[b3t] at h;subst h;have hle:=b4B hb;refine⟨⟨_,rfl,(hl.drop off).take s.size⟩,?_,?_⟩
   .simp only[Ty.size,b3R,b4L];omega
   .simp only[Ty.size];omega
  .cases h
 | int k=>exact one rfl (by intro s;simp) h
 | bool=>exact one rfl (by intro s;simp) h
 | str=>exact one rfl (by intro s;simp) h
 | slice t=>exact one rfl (by intro s;simp) h
 | mv t=>exact one rfl (by intro s;simp) h
 | ptr=>exact one rfl (by intro s;simp) h
theorem cd.part{bk o:Nat}{l:List Value}(h:cd w bk o l)(off n:Nat):cd w bk (o+off) ((l.drop off).take n):=λ j v hj=>by
 rw[b4W] at hj;split at hj
 .rw[b5h] at hj;have:=h (off+j) v hj;rwa [<-b6s] at this
 .cases hj
theorem cd.of_heap{bk:Nat}{l:List Value}{t:TypeId}{fr:Nat×Nat}(h:w.heap[bk]?=some (.cells l.toArray t fr)):cd w bk 0 l:=λ j v hj=>by
 simp only[World.cell?,h,Nat.zero_add,Option.isSome_none];simpa using hj
theorem a3J{S:Nat->Prop}{v u:TV}{off:Nat}{τ:Ty}(h:v.part off τ=some u){l:List Value}(hl:Rd w S v.aP l) :
  u.τ=τ/\((l.drop off).take τ.size).length=τ.size/\Rd w S u.aP ((l.drop off).take τ.size):=by
 have hlen:=Rd.length _ hl;rw[show v.aP=v.τ.aP v.x from rfl,Ty.cM] at hlen;unfold TV.part at h;split at h
 .rename_i hb;simp only[b3A] at hb;simp only[b3t] at h;subst h;have h0:=b3x hb.1;have h1:=b4l hb.2;subst h0;subst h1;rw[b5F,b3U (by omega)];exact⟨rfl,hlen,hl⟩
 .split at h
  .rename_i z hz;split at h
   .rename_i hb;simp only[b3t] at h;subst h;have h1:=b4l hb;subst h1;obtain⟨bf,y⟩:=v;have key:∀ (x:Value),l[off]?=some x->z.τ.agg=false->Rd w S z.aP [x]->z.τ=z.τ/\((l.drop off).take z.τ.size).length=z.τ.size/\Rd w S z.aP ((l.drop off).take z.τ.size):=by
     intro x hx ha hr;have bK:off<l.length:=(b4p.1 hx).1;have he:(l.drop off).take 1=[x]:=by
      rw[b5m bK];have:=(b4p.1 hx).2;simp[this]
     rw[Ty.jC ha,he];exact⟨rfl,rfl,hr⟩
    cases bf with
    | st s =>
     simp only[TV.cells] at hz;rw[show TV.aP ⟨.st s,y⟩=s.aP y from rfl,aQ.ct] at hl;obtain⟨x,hx,hr⟩:=(dh.dH.1 hl).at_ off z hz;refine key x hx ?_ hr;have:=aQ.po s y z (b4S hz);obtain⟨b2Q,z'⟩:=z;cases b2Q with
     | st s'=>simp[TV.aP,Ty.aP,aQ.ct,D.leaf] at this
     | _=>rfl
    | _ =>
     simp only[TV.cells] at hz;cases off with
     | zero =>
      simp at hz;subst hz;obtain⟨x,rfl,_⟩:=Rd.uY (jx rfl) hl;exact key x rfl rfl hl
     | succ k=>simp at hz
   .cases h
  .cases h
theorem a5O{id:Nat}{e:TypeId}{τ:Ty}{xs:List τ.den}(ho:OR c G lk w id (.row e τ xs)){b n cap:Nat}(eu:G.η id = .slice (some ⟨b,0,none⟩) n cap){i:Nat}(hi:i<xs.length) :
  ∃ cs,cs.length=τ.size/\cd w b (i * τ.size) cs/\Rd w G.S (τ.aP (xs.getD i τ.zero)) cs:=by
 obtain⟨l,h1,h2,h3⟩:=ho;have cJ:∀ d∈xs.map τ.aP,d.size=τ.size:=by
  intro d hd;obtain⟨y,_,rfl⟩:=b3E.1 hd;exact Ty.cM τ y
 have hll:=dT.length _ h2 cJ;have VV:=dT.at_ _ h2 cJ i (τ.aP (xs.getD i τ.zero)) (by simp[List.getD,hi]);have hlen:=Rd.length _ VV;rw[Ty.cM] at hlen;refine⟨_,hlen,?_,VV⟩;have hc:cd w b 0 l:=λ j v hj=>by
  have:=h1.cells (g:=b) (by rw[eu];rfl) j v hj;rwa [b5J] at this
 have:=hc.part (i * τ.size) τ.size;rwa [b5b] at this
theorem qp(lq:∀ id o,lk id=some o->OR c G lk w id o){lk':Nat->Option aA}(cr:∀ id o,lk' id=some o->lk id=some o){τ:Ty}{v u:AV}{x:Value}(h:sN lk' τ v=some u)(hv:VR c G lk w v x) :
  ∃ b o cs,x = .pointer (some ⟨b,o,none⟩)/\cd w b o cs/\cs.length=τ.size/\VR c G lk w u (La τ cs):=by
 cases v with
 | cZ z =>
  simp only[sN] at h;split at h
  .rename_i hb;simp only[b3t] at h;subst h;have e:=b4l hb;subst e;obtain⟨b,o,cs,h1,h2,h3,h4⟩:=hv;refine⟨b,o,cs,h1,h3,?_,dZ.mk_ h4⟩;rw[Rd.length _ h4];exact Ty.cM _ _
  .cases h
 | ptr id off =>
  simp only[sN] at h;split at h
  .rename_i cs hl;obtain⟨b,h1,h2,h3⟩:=hv;obtain⟨b',l,t,k1,k2,k3⟩:=lq _ _ (cr _ _ hl);rw[h1] at k1;simp only[b5O,b3t,b5i,b3L] at k1;subst k1;obtain⟨m1,m2,m3⟩:=Im k3 h;refine⟨b,off,_,h2,?_,m2,m1⟩;have:=(cd.of_heap k2).part off τ.size;rwa [b5b] at this
  .cases h
 | eG id i off =>
  simp only[sN] at h;split at h
  .rename_i e bf xs hl;split at h
   .rename_i z hz;simp only[b3t] at h;subst h;obtain⟨b,n,cap,e1,Yp,Yo,h1,h2,h3,h4⟩:=hv;have nP:=cr _ _ hl;rw[nP] at h2;simp only[b3t,aA.row.injEq] at h2;obtain⟨rfl,rfl,h2⟩:=h2;have h2:=b6H h2;subst h2;obtain⟨cs,m1,m2,m3⟩:=a5O (lq _ _ nP) h1 h3;obtain⟨p1,p2,p3⟩:=a3J (v:=⟨bf,xs.getD i bf.zero⟩) hz m3;subst p1;exact⟨b,_,_,h4,m2.part off _,p2,dZ.mk_ p3⟩
   .cases h
  .cases h
 | _=>cases h
end
theorem eM{k:IntKind}{n:Int}(h:bS k n):k.min<=n/\n<=k.max:=by
 cases k<;>first
  | exact h
  | (simp only[bS,O] at h;simp only[IntKind.min,IntKind.max,IntKind.signed,IntKind.bits,b5u];exact⟨by omega,by omega⟩)
theorem tW{k:IntKind}{n:Int}(h:k.min<=n/\n<=k.max):k.wrap n=n:=by
 cases k<;>simp[IntKind.min,IntKind.max,IntKind.signed,IntKind.bits] at h<;>simp[IntKind.wrap,IntKind.signed,IntKind.bits]<;>(try split)<;>omega
theorem XG(n:Int):IntKind.u64.min<=IntKind.u64.wrap n/\IntKind.u64.wrap n<=IntKind.u64.max:=by
 simp[IntKind.min,IntKind.max,IntKind.signed,IntKind.bits,IntKind.wrap];omega
theorem a3v{k:IntKind}{a:Int}(h0:0<=a)(h:k.min<=a/\a<=k.max):a.toNat<2 ^ k.bits:=by
 cases k<;>simp[IntKind.min,IntKind.max,IntKind.signed,IntKind.bits] at h ⊢<;>omega
theorem a5e{k:IntKind}{a b:Int}(ha0:0<=a)(Pv:0<=b)(ha:k.min<=a/\a<=k.max)(hb:k.min<=b/\b<=k.max) :
  k.wrap ((BitVec.ofInt k.bits a &&& BitVec.ofInt k.bits b).toNat:Int)=((a.toNat &&& b.toNat:Nat):Int)/\k.min<=((a.toNat &&& b.toNat:Nat):Int)/\((a.toNat &&& b.toNat:Nat):Int)<=k.max:=by
 have h1:∀ x:Int,0<=x->k.min<=x/\x<=k.max->(BitVec.ofInt k.bits x).toNat=x.toNat:=λ x h0 hx=>by
  obtain⟨n,rfl⟩:=b6p h0;have:=a3v h0 hx;simp only[b3O] at this ⊢;rw[show BitVec.ofInt k.bits (n:Int)=BitVec.ofNat k.bits n from BitVec.ofInt_natCast ..,BitVec.toNat_ofNat];exact Nat.mod_eq_of_lt this
 have hle:((a.toNat &&& b.toNat:Nat):Int)<=a:=by
  have := @Nat.and_le_left a.toNat b.toNat;omega
 have hr:k.min<=((a.toNat &&& b.toNat:Nat):Int)/\((a.toNat &&& b.toNat:Nat):Int)<=k.max:=by
  refine⟨?_,by omega⟩;have:k.min<=0:=by cases k<;>decide
  omega
 rw[BitVec.toNat_and,h1 a ha0 ha,h1 b Pv hb];exact⟨tW hr,hr⟩
theorem U7{op:BinOp}{k yk:IntKind}{a b r:Int}{p:Vc}(h:arith op k a b=some (p,r))(hp:p.ok)(hk:op = .shl\/op = .shr\/yk=k)(P:Program)(t:TypeId)(w:World) :
  (binOp op t (.int k a) (.int yk b)).run P w = .ok (.int k r) w/\k.min<=r/\r<=k.max:=by
 cases op<;>simp only[arith] at h<;>try cases h
 case add =>
  have hk:yk=k:=by simpa using hk
  subst hk;split at h<;>simp only[b3t,b3w] at h<;>obtain⟨rfl,rfl⟩:=h
  .exact⟨by simp[binOp_add,Op.intArith],XG _⟩
  .have:=eM hp;exact⟨by simp[binOp_add,Op.intArith,tW this],this⟩
 case sub =>
  have hk:yk=k:=by simpa using hk
  subst hk;have:=eM hp;exact⟨by simp[binOp_sub,Op.intArith,tW this],this⟩
 case mul =>
  have hk:yk=k:=by simpa using hk
  subst hk;split at h<;>simp only[b3t,b3w] at h<;>obtain⟨rfl,rfl⟩:=h
  .exact⟨by simp[binOp_mul,Op.intArith],XG _⟩
  .have:=eM hp;exact⟨by simp[binOp_mul,Op.intArith,tW this],this⟩
 case quo =>
  have hk:yk=k:=by simpa using hk
  subst hk;have:=eM hp.2;exact⟨by simp[binOp_quo,Op.intDiv,hp.1,tW this],this⟩
 case rem =>
  have hk:yk=k:=by simpa using hk
  subst hk;have:=eM hp.2;exact⟨by simp[binOp_rem,Op.intDiv,hp.1],this⟩
 case and =>
  have hk:yk=k:=by simpa using hk
  subst hk;obtain⟨h1,h2⟩:=a5e hp.1 hp.2.1 (eM hp.2.2.1) (eM hp.2.2.2);exact⟨by simp only[binOp_and,Op.intBits,b4i,h1],h2⟩
 case shl =>
  have hp1:b<(k.bits:Int):=hp.2.1;have:=eM hp.2.2;have hb:min b.toNat k.bits=b.toNat:=by omega
  exact⟨by simp[binOp_shl,Op.shift,Int.not_lt.2 hp.1,hb,tW this],this⟩
 case shr =>
  have hp1:b<(k.bits:Int):=hp.2.1;have:=eM hp.2.2;have hb:min b.toNat k.bits=b.toNat:=by omega
  exact⟨by simp[binOp_shr,Op.shift,Int.not_lt.2 hp.1,hb],this⟩
theorem a0K(k:IntKind)(n:Int):k.min<=k.wrap n/\k.wrap n<=k.max:=by
 cases k<;>simp[IntKind.min,IntKind.max,IntKind.signed,IntKind.bits,IntKind.wrap]<;>omega
theorem a0R{wr:Bool}{op:BinOp}{k yk:IntKind}{a b r:Int}{p:Vc}(h:ZL wr op k a b=some (p,r))(hp:p.ok)(hk:op = .shl\/op = .shr\/yk=k)(P:Program)(t:TypeId)(w:World) :
  (binOp op t (.int k a) (.int yk b)).run P w = .ok (.int k r) w/\k.min<=r/\r<=k.max:=by
 unfold ZL at h;split at h
 .split at h
  .have hk:yk=k:=by simpa using hk
   subst hk;simp only[b3t,b3w] at h;obtain⟨rfl,rfl⟩:=h;exact⟨by simp[binOp_add,Op.intArith],a0K _ _⟩
  .have hk:yk=k:=by simpa using hk
   subst hk;simp only[b3t,b3w] at h;obtain⟨rfl,rfl⟩:=h;exact⟨by simp[binOp_sub,Op.intArith],a0K _ _⟩
  .have hk:yk=k:=by simpa using hk
   subst hk;simp only[b3t,b3w] at h;obtain⟨rfl,rfl⟩:=h;exact⟨by simp[binOp_mul,Op.intArith],a0K _ _⟩
  .exact U7 h hp hk P t w
 .exact U7 h hp hk P t w
theorem a6E{op:BinOp}{k:IntKind}{a b:Int}{r:Bool}(h:cmp op a b=some r)(P:Program)(t:TypeId)(w:World) :
  (binOp op t (.int k a) (.int k b)).run P w = .ok (.bool r) w:=by
 cases op<;>simp only[cmp,b3t] at h<;>try cases h
 .simp only[binOp_eql,b4i];congr 2
 .simp only[binOp_neq,b4i];congr 2
 .simp[binOp_lss]
 .simp[binOp_leq]
 .simp[binOp_gtr]
 .simp[binOp_geq]
section
variable {c:Ctx} {G:Gh} {lk:Nat->Option aA} {w:World}
theorem YD(a b:ByteArray):(a.toList == b.toList)=decide (a.data.toList=b.data.toList):=by
 rw[b7s,b7s];rw[b5w];simp
theorem a2J(hE:bE c.P c.E){op:BinOp}{T:TypeId}{u v r:AV}{x y:Value}{p:Vc}{wr:Bool}(ox oy:Operand)
  (h:a2I (match ah c.E.ty T with
   | some (.bool,_)=>true
   | _=>false) wr op u v=some (p,r)) (hp:p.ok) (hu:VR c G lk w u x) (hv:VR c G lk w v y) :
  ∃ z,(do eqGuard op T ox oy x y;binOp op T x y:Sem Value).run c.P w = .ok z w/\VR c G lk w r z:=by
 unfold a2I at h;split at h
 .rename_i k a k' b;obtain⟨h1,h2⟩:=hu;obtain⟨h3,h4⟩:=hv;simp only[b3F,b3L] at h1 h3;subst h1 h3;simp only[eqGuard_at_int,b4c,b4i,b3X];split at h
  .rename_i p' r' har;have key:(op = .shl\/op = .shr\/k'=k)->p'.ok->∃ z,(binOp op T (.int k a) (.int k' b)).run c.P w = .ok z w/\VR c G lk w (.aF ⟨.int k,r'⟩) z:=λ hk V7=>by
    obtain⟨h5,h6⟩:=a0R har V7 hk c.P T w;exact⟨_,h5,rfl,h6⟩
   split at h
   .simp only[b3t,b3w] at h;obtain⟨rfl,rfl⟩:=h;exact key (.inl rfl) hp
   .simp only[b3t,b3w] at h;obtain⟨rfl,rfl⟩:=h;exact key (.inr (.inl rfl)) hp
   .split at h
    .rename_i hk;simp only[b3t,b3w] at h;obtain⟨rfl,rfl⟩:=h;exact key (.inr (.inr (b4l hk).symm)) hp
    .cases h
  .split at h
   .rename_i hk;have hk:=b4l hk;subst hk;split at h
    .rename_i cc hc;simp only[b3t,b3w] at h;obtain⟨rfl,rfl⟩:=h;exact⟨_,a6E hc c.P T w,rfl⟩
    .cases h
   .cases h
 .rename_i a b;have hu:[x]=[.bool a]:=hu;have hv:[y]=[.bool b]:=hv;simp only[b3F,b3L] at hu hv;subst hu hv;split at h
  .rename_i hT;split at hT
   .rename_i r' hl;have hb:=hE.bool hl;split at h
    .simp only[b3t,b3w] at h;obtain⟨rfl,rfl⟩:=h;exact⟨.bool (a == b),by simp[binOp,run_equal_bool w T a b hb,eqGuard_at_bool],rfl⟩
    .simp only[b3t,b3w] at h;obtain⟨rfl,rfl⟩:=h;exact⟨.bool !(a == b),by simp[binOp,run_equal_bool w T a b hb,eqGuard_at_bool],rfl⟩
    .cases h
   .cases hT
  .cases h
 .rename_i a b;obtain⟨s,h1,h2,h3⟩:=hu;obtain⟨s',h4,h5,h6⟩:=hv;simp only[b3F,b3L] at h1 h4;subst h1 h4;subst h2 h5;split at h
  .simp only[b3t,b3w] at h;obtain⟨rfl,rfl⟩:=h;exact⟨.bool (s.toList == s'.toList),by simp[binOp,Op.stringOp,b6Q],by rw[YD];rfl⟩
  .simp only[b3t,b3w] at h;obtain⟨rfl,rfl⟩:=h;exact⟨.bool (!(s.toList == s'.toList)),by simp[binOp,Op.stringOp,b6Q],by rw[YD];rfl⟩
  .simp only[b3t,b3w] at h;obtain⟨rfl,rfl⟩:=h;have cJ:s.size+s'.size<=140737488355328:=by
    have:=hp;simp only[b4A] at this;exact this
   have hs2:(s++s').size=s.size+s'.size:=ByteArray.size_append;refine⟨.string (s++s'),?_,s++s',rfl,by simp,by rw[hs2];exact cJ⟩;have:¬ (((s.size+s'.size:Nat):Int)>IntKind.i64.max):=by rw[IntKind.max_i64];omega
   simp only[b6Q,b4c,b4i,b3X,binOp,Op.stringOp,b3H this]
  .cases h
 .cases h
theorem kt(hE:bE c.P c.E){T:TypeId}{n:aQ}{b e:Nat}(h:ah c.E.ty T=some (.st n,b,e)){bk o:Nat}{i:Nat}(hi:i<n.fu.length)(w:World) :
  (Instr.fieldAt T (.pointer (some ⟨bk,o,none⟩)) i).run c.P w = .ok (.pointer (some ⟨bk,o+n.eW i,none⟩)) w:=by
 obtain⟨fs,h1,h2,h3⟩:=hE.st h;have hf:fs[i]?=some fs[i]:=b4J (by omega);obtain⟨t,b',e',h4,h5,h6⟩:=h3 i _ hf;have cJ:=hE.sizeOf h5 w;have h0:t.size≠0:=Nat.pos_iff_ne_zero.1 t.size_pos;simp[Instr.fieldAt,b4v h1,hf,Instr.sureAddr,fieldPlace,cJ,h0,b5J,h6]
theorem Xk(hE:bE c.P c.E){T:TypeId}{n:aQ}{b e:Nat}(h:ah c.E.ty T=some (.st n,b,e)){l:List Value}{i:Nat}{t:Ty}(hi:n.fu[i]?=some t)
  (hl:n.eW i+t.size<=l.length) (w:World) :
  (Instr.field T (.agg l.toArray) i).run c.P w = .ok (La t ((l.drop (n.eW i)).take t.size)) w:=by
 obtain⟨fs,h1,h2,h3⟩:=hE.st h;have bK:i<fs.size:=by have:=(b4p.1 hi).1;omega
 have hf:fs[i]?=some fs[i]:=b4J bK;obtain⟨t',b',e',h4,h5,h6⟩:=h3 i _ hf;rw[hi] at h4;simp only[b3t] at h4;subst h4;have cJ:=hE.sizeOf h5 w;have hag:=hE.isAgg h5 w;simp only[Instr.field,b4c,b4v h1,b3X,hf,asAgg,part,hag,b4i];cases jr:t.agg with
 | true =>
  simp only[b5u,b4c,cJ,b3X,b4i,h6];cases t<;>first|(cases jr;done)|skip
  simp only[La,Result.ok.injEq,Value.agg.injEq,b3L];apply b7k;simp[List.take_drop]
 | false =>
  have h1:=Ty.jC jr;simp only[b3C,b6c,h6];have hx:l.toArray[n.eW i]?=some (l[n.eW i]'(by omega)):=by rw[List.getElem?_toArray];exact b3Z (by omega)
  rw[hx];simp only[b4i,h1];have he:(l.drop (n.eW i)).take 1=[l[n.eW i]'(by omega)]:=by
   rw[b5m (by omega),b6A,b4z]
  rw[he];cases t<;>first|rfl|cases jr
end
section
variable {c:Ctx} {G:Gh} {lk:Nat->Option aA} {w:World}
theorem a4a(k:IntKind):k.min<=0/\0<=k.max:=by cases k<;>decide
theorem JM{τ:Ty}{v:Value}(h:zG τ v=true):C1 c G lk w (zeroCell τ) v:=by
 unfold zG at h;split at h
 .simp only[b3A] at h;have h1:=b4l h.1;have h2:=b4l h.2;subst h1 h2;exact⟨rfl,rfl,a4a _⟩
 .rename_i b;cases b
  .exact⟨rfl,rfl⟩
  .cases h
 .rename_i s;exact⟨rfl,s,rfl,List.isEmpty_iff.1 h,by simp[List.isEmpty_iff] at h;simp[ByteArray.size,h]⟩
 .rfl
 .exact⟨rfl,_,rfl⟩
 .cases h
theorem kK{τ:Ty}{z:Value}(h:BB τ z=true):aT (C1 c G lk w) (zeroCells τ) z.cells.toList:=by
 have key:∀ (ts:List Ty) (vs:List Value),QN ts vs=true->aT (C1 c G lk w) (ts.map zeroCell) vs:=by
  intro ts;induction ts with
  | nil=>intro vs h;cases vs<;>first|trivial|cases h
  | cons t ts ih =>
   intro vs h;cases vs with
   | nil=>cases h
   | cons v vs =>
    simp only[QN,b3A] at h;exact⟨JM h.1,ih vs h.2⟩
 have one:∀ v,zG τ v=true->v.cells = #[v]:=by
  intro v hv;unfold zG at hv;split at hv<;>first|rfl|cases hv
 unfold BB at h;split at h
 .rename_i s cs;exact key _ _ h
 .cases h
 .rename_i bf v h1 h2;rw[one _ h];have:zeroCells τ=[zeroCell τ]:=by
   cases τ<;>first|rfl|(rename_i s;cases v<;>first|exact absurd rfl (h2 s rfl)|cases h)
  rw[this];exact⟨JM h,ae⟩
theorem QO{S:Nat->Prop}{τ:Ty}{z:Value}(h:BB τ z=true):Rd w S (τ.aP τ.zero) z.cells.toList:=by
 have h1:=kK (c:=⟨{ funcs := #[],goVersion := "",platform := "",initOrder := "",godebug := "",types := #[],rt:=default,cutTypes := #[],globals := #[],inits := #[],main:=0 },{ ty:=[],pty:=[],Q7:=λ _ _=>none },w,λ _=>True,S,λ _=>none,λ _=>False,λ _=>none⟩) (G:=⟨S,λ _=>undef,λ _=>[]⟩) (lk:=λ _=>none) (w:=w) h;have cell:∀ t x,C1 ⟨{ funcs := #[],goVersion := "",platform := "",initOrder := "",godebug := "",types := #[],rt:=default,cutTypes := #[],globals := #[],inits := #[],main:=0 },{ ty:=[],pty:=[],Q7:=λ _ _=>none },w,λ _=>True,S,λ _=>none,λ _=>False,λ _=>none⟩ ⟨S,λ _=>undef,λ _=>[]⟩ (λ _=>none) w (zeroCell t) x->Rd w S (t.aP t.zero) [x]:=by
  intro t x hx;cases t with
  | slice t'=>exact Ux (τ := .slice t') (v := .nil) rfl hx
  | _=>exact hx.2
 cases τ with
 | st s =>
  simp only[zeroCells] at h1;show Rd w S (s.aP s.zero) _;rw[aQ.ct];have hz:(s.cells s.zero).map TV.aP=s.s7.map λ t=>t.aP t.zero:=by cases s<;>rfl
  rw[hz];have h2:=aT.of_map _ h1;have:∀ (ts:List Ty) (vs:List Value),aT (λ t x=>Rd w S (t.aP t.zero) [x]) ts vs->dh w S (ts.map λ t=>t.aP t.zero) vs:=by
   intro ts;induction ts with
   | nil=>intro vs h;cases vs<;>first|rfl|cases h
   | cons t ts ih =>
    intro vs h;cases vs with
    | nil=>cases h
    | cons v vs=>exact⟨v,vs,rfl,h.1,ih vs h.2⟩
  exact this _ _ (h2.imp λ t x _ hx=>cell t x hx)
 | _ =>
  simp only[zeroCells] at h1;match hc:z.cells.toList,h1 with
  | [x],h1=>exact cell _ _ h1.1
theorem VK(off:Nat):∀ (xs:List Value) (k:Nat) (l:List Value),off+k+xs.length<=l.length ->
  (xs.zipIdx k).foldl (λ cs p=>cs.setIfInBounds (off+p.2) p.1) l.toArray=(l.take (off+k)++xs++l.drop (off+k+xs.length)).toArray
 | [],k,l,_=>by simp
 | x::xs,k,l,h=>by
  simp only[List.length_cons] at h;simp only[List.zipIdx_cons,List.foldl_cons];have:=VK off xs (k+1) (l.set (off+k) x) (by simp;omega);rw[List.setIfInBounds_toArray,this];congr 1;have e:=list_seg_step l (off+k) x xs (by omega);simpa [Nat.add_assoc] using e
theorem Rb(place:Nat->Option (Nat×Nat))(i off size:Nat)(v:Value)(rest:List (Nat×Value))(l:List Value)(hp:place i=some (off,size))(hs:v.cells.size=size)(hl:off+size<=l.length) :
  Instr.fill place l.toArray ((i,v)::rest)=Instr.fill place (l.take off++v.cells.toList++l.drop (off+size)).toArray rest:=by
 have hn:(decide (v.cells.size≠size)||decide (off+v.cells.size>l.toArray.size))=false:=by
  simp[hs];omega
 simp only[Instr.fill,hp,hn,b3C,b6c];congr 1;rw[<-Array.foldl_toList,Array.toList_zipIdx];have:=VK off v.cells.toList 0 l (by simp[hs];omega);simp only[b5s,b4A,hs] at this;exact this
theorem LP{E:Env}{s:aQ}{place:Nat->Option (Nat×Nat)}(hp:∀ i t,s.fu[i]?=some t->place i=some (s.eW i,t.size)) :
  ∀ {ps:List (Nat×AV)} {vs:List (Nat×Value)} {cs dB:List AV} {l:List Value},partsOf E s cs ps=some dB->aT (λ p q=>p.1=q.1/\VR c G lk w p.2 q.2) ps vs->aT (C1 c G lk w) cs l ->
   ∃ l',Instr.fill place l.toArray vs=some l'.toArray/\aT (C1 c G lk w) dB l'
 | [],[],cs,dB,l,h,_,hl=>by
  simp only[partsOf,b3t] at h;subst h;exact⟨l,rfl,hl⟩
 | (i,v)::ps,(j,x)::vs,cs,dB,l,h,hv,hl=>by
  obtain⟨⟨Dj,hx⟩,Wa⟩:=hv;have Dj:i=j:=Dj;subst Dj;simp only[partsOf] at h;split at h
  .rename_i τ jr;split at h
   .rename_i new qU;split at h
    .rename_i cs1 Dl;obtain⟨h1,_,h3⟩:=BG qU hx;have hlen:=h1.length;have hll:=hl.length;unfold putCells at Dl;split at Dl
     .rename_i hb;have hb:=b4B hb;simp only[b3t] at Dl;subst Dl;have cJ:x.cells.size=τ.size:=by rw[<-h3,hlen];simp
      have Di:s.eW i+τ.size<=l.length:=by omega
      rw[Rb place i _ _ x vs l (hp i τ jr) cJ Di];refine LP hp h Wa ?_;rw[b4x,<-h3];exact (hl.take _).append (h1.append (hl.drop _))
     .cases Dl
    .cases h
   .cases h
  .cases h
 | [],_::_,_,_,_,_,hv,_=>hv.elim
 | _::_,[],_,_,_,_,hv,_=>hv.elim
theorem Ls{τ:Ty}{place:Nat->Option (Nat×Nat)}(hp:∀ i,place i=some (i * τ.size,τ.size)) :
  ∀ {ps:List (Nat×AV)} {vs:List (Nat×Value)} {n:Nat} {xs:List τ.den} {l:List Value},tc τ n ps=some xs->aT (λ p q=>p.1=q.1/\VR c G lk w p.2 q.2) ps vs ->
   (n+ps.length) * τ.size=l.length->∃ r,Instr.fill place l.toArray vs=some (l.take (n * τ.size)++r).toArray/\dT w G.S (xs.map τ.aP) r
 | [],[],n,xs,l,h,_,hl=>by
  simp only[tc,b3t] at h;subst h;refine⟨[],?_,rfl⟩;simp only[b3T,b5s] at hl;rw[hl,b5N,b4N];rfl
 | (i,v)::ps,(j,x)::vs,n,xs,l,h,hv,hl=>by
  obtain⟨⟨Dj,hx⟩,Wa⟩:=hv;have Dj:i=j:=Dj;subst Dj;simp only[tc] at h;split at h
  .rename_i eL;have eL:=b3x eL;subst eL;split at h
   .rename_i y hy;split at h
    .rename_i ys Ng;simp only[b3t] at h;subst h;have hr:=(Om hy hx).cells;have cJ:x.cells.size=τ.size:=by
      have:=Rd.length _ hr;rw[show TV.aP ⟨τ,y⟩=τ.aP y from rfl,Ty.cM] at this;simpa using this
     simp only[b3G] at hl;have PF:=τ.size_pos;have e1:(i+(ps.length+1)) * τ.size=i * τ.size+τ.size+ps.length * τ.size:=by
      rw[b4O,b4O];omega
     rw[Rb place i _ _ x vs l (hp i) cJ (by omega)];obtain⟨r,h1,h2⟩:=Ls hp (l:=l.take (i * τ.size)++x.cells.toList++l.drop (i * τ.size+τ.size)) Ng Wa (by
      simp[cJ];rw[show (i+1+ps.length) * τ.size=i * τ.size+τ.size+ps.length * τ.size by rw[b4O,b4O];omega];omega)
     refine⟨x.cells.toList++r,?_,_,_,rfl,hr,h2⟩;rw[h1];congr 2;rw[show (i+1) * τ.size=i * τ.size+τ.size by rw[b4O];omega];have ht:(l.take (i * τ.size)++x.cells.toList).length=i * τ.size+τ.size:=by simp[cJ];omega
     rw[<-ht,b5G,b4x]
    .cases h
   .cases h
  .cases h
 | [],_::_,_,_,_,_,hv,_=>hv.elim
 | _::_,[],_,_,_,_,hv,_=>hv.elim
theorem FU{τ:Ty}:∀ {ps:List (Nat×AV)} {n:Nat} {xs:List τ.den},tc τ n ps=some xs->xs.length=ps.length
 | [],n,xs,h=>by
  simp only[tc,b3t] at h;subst h;rfl
 | (i,v)::ps,n,xs,h=>by
  simp only[tc] at h;split at h
  .split at h
   .split at h
    .rename_i ys Ng;simp only[b3t] at h;subst h;simp[FU Ng]
    .cases h
   .cases h
  .cases h
theorem Gv(z:Array Value)(k:Nat):(madeCells z ((k+1) * z.size)).toList=(madeCells z (k * z.size)).toList++z.toList:=by
 apply b6q;intro j;have e:(k+1) * z.size=k * z.size+z.size:=by rw[b4O];omega
 by_cases h1:j<k * z.size
 .rw[b5l (by simp[madeCells];exact h1)];have h2:j<(k+1) * z.size:=by omega
  simp[madeCells,h1,h2]
 .by_cases h2:j<(k+1) * z.size
  .rw[b4V (by simp[madeCells];omega)];have h3:j - k * z.size<z.size:=by omega
   have hm:j % z.size=j - k * z.size:=by
    have h4:(j - k * z.size+z.size * k) % z.size=j - k * z.size:=by rw[Nat.add_mul_mod_self_left,Nat.mod_eq_of_lt h3]
    rwa [Nat.mul_comm z.size k,Nat.sub_add_cancel (Nat.le_of_not_lt h1)] at h4
   simp[madeCells,h2,hm,h3]
  .rw[b4V (by simp[madeCells];omega)];have h3:¬ j - k * z.size<z.size:=by omega
   simp[madeCells,h2];omega
theorem LG{S:Nat->Prop}{d:D}{z:Array Value}(h:Rd w S d z.toList):∀ k:Nat,dT w S (List.replicate k d) (madeCells z (k * z.size)).toList
 | 0=>by simp[madeCells,dT,Array.range_zero']
 | k+1=>by
  rw[Gv,b6d];exact dT.append _ _ (LG h k) ⟨z.toList,[],by simp,h,rfl⟩
theorem Gw(z:Array Value)(n m:Nat)(h:n<=m):(madeCells z m).toList.take n=(madeCells z n).toList:=by
 apply b6q;intro j;rw[b4W];by_cases hj:j<n
 .have:j<m:=by omega
  simp[madeCells,hj,this]
 .simp[madeCells,hj]
end
def LV(d:Option Nat)(v:AV):aA->Prop
 | .box _=>∃ i,d=some i/\v = .ptr i 0
 | .row .. => ∃ i,d=some i/\v = .row i
 | .aw .. => False
 | .map .. => ∃ i,d=some i/\v = .mp i
def a4b(c:Ctx)(G:Gh)(lk:Nat->Option aA)(w:World)(x:Value):aA->Prop
 | .box cs=>∃ b l t,x = .pointer (some ⟨b,0,none⟩)/\w.heap[b]?=some (.cells l.toArray t (0,0))/\aT (C1 c G lk w) cs l
 | .row e τ xs=>∃ l,w.ownsRow 0 e τ.size x xs.length l/\dT w G.S (xs.map τ.aP) l/\xs.length<=140737488355328
 | .aw .. => False
 | .map m=>∃ b es clock,x = .map (some b)/\w.heap[b]?=some (.map es clock)/\Oa m es
def Ad(c:Ctx)(G:Gh)(sl:Nat->AV)(n:Nat)(lk:Nat->Option aA)(d:Option Nat)(a:Act)(w:World)(v:AV)(ob:Option aA)(a':Act)(w':World):Prop :=
 ∃ x S',a'=a.put d x/\bu c ⟨S',G.η,G.φ⟩ sl n lk a w' /\
  match ob with
  | none=>VR c ⟨S',G.η,G.φ⟩ lk w' v x
  | some o=>LV d v o/\a4b c ⟨S',G.η,G.φ⟩ lk w' x o/\∀ b,eb x=some b->w.heap.size<=b/\b<w'.heap.size/\¬ S' b
section
variable {c:Ctx} {G:Gh} {sl:Nat->AV} {n:Nat} {lk:Nat->Option aA} {a:Act} {w w':World}
theorem bu.grow(h:bu c G sl n lk a w)(hk:bC (λ _=>False) w w'){S':Nat->Prop}(hS:∀ b,b<w.heap.size->(S' b↔G.S b))(hLt:∀ b,S' b->b<w'.heap.size):bu c ⟨S',G.η,G.φ⟩ sl n lk a w':=by
 refine h.world ⟨hk.os,hk.tape,hk.output,hk.size,λ b hb _=>hk.block b hb (λ h=>h)⟩ (λ b hb=>(hS b (h.dE b hb)).2 hb) hS (λ b hb=>?_) hLt (λ b hb=>?_) (λ id o b ho hb=>?_) (λ id τ xs b ht hb=>hk.block b (h.aR.pl id τ xs b ht hb).2.2.1 (λ h=>h))
 .have h1:=h.sX b hb;exact (hS b (h.dE b h1)).2 h1
 .refine hk.block b ?_ (λ h=>h);rcases hb with hb|hb
  .exact h.dE b hb
  .exact b3P hb.1 h.aS.size
 .exact hk.block b (h.place id o b ho hb).2.2 (λ h=>h)
theorem gv(w:World)(o:Obj):bC (λ _=>False) w (w.alloc o):=⟨rfl,rfl,rfl,by simp,λ b hb _=>RowKit.Below.heap_alloc w o b hb⟩
theorem bu.alloc(h:bu c G sl n lk a w)(o:Obj):bu c G sl n lk a (w.alloc o) :=
 h.grow (S':=G.S) (gv w o) (λ _ _=>b5z) (λ b hb=>by have:=h.dE b hb;simp;omega)
theorem bu.a0E(h:bu c G sl n lk a w)(hk:bC (λ _=>False) w w')(b:Nat)(hb:St c G.S b):w'.heap[b]?=w.heap[b]?:=by
 refine hk.block b ?_ (λ h=>h);rcases hb with hb|hb
 .exact h.dE b hb
 .exact b3P hb.1 h.aS.size
theorem bu.b0r(h:bu c G sl n lk a w)(hk:bC (λ _=>False) w w'){v:AV}{x:Value}(hv:C1 c G lk w v x):C1 c G lk w' v x :=
 hv.mono (λ _ _=>⟨eJ.refl _,rfl⟩) (λ _ h=>h) (h.a0E hk)
theorem cH{o:Oper}{v:AV}{x:Value}{Q:Exit->Act->World->Prop}(hI:bu c G sl n lk a w)(hr:(execOp a.eval o).run c.P w = .ok (.value x) w)(hv:VR c G lk w v x) :
  o.wp c.P a w (Ad c G sl n lk o.dst a w v none) Q:=by
 unfold Oper.wp;rw[hr];exact⟨x,G.S,rfl,hI,hv⟩
theorem C4{o:Oper}{v:AV}{ob:aA}{x:Value}{Q:Exit->Act->World->Prop}(hI0:bu c G sl n lk a w)(hr:(execOp a.eval o).run c.P w = .ok (.value x) w')(hI:bu c G sl n lk a w')
  (hL:LV o.dst v ob) (hN:a4b c G lk w' x ob) (hb:∀ b,eb x=some b->w.heap.size<=b/\b<w'.heap.size) :
  o.wp c.P a w (Ad c G sl n lk o.dst a w v (some ob)) Q:=by
 unfold Oper.wp;rw[hr];exact⟨x,G.S,rfl,hI,hL,hN,λ b h=>⟨(hb b h).1,(hb b h).2,λ hs=>by have:=hI0.dE b hs;have:=(hb b h).1;omega⟩⟩
theorem Zj{e:TypeId}{τ:Ty}{xs:List τ.den}{x:Value}{l:List Value}{S S':Nat->Prop}(h1:w.ownsRow 0 e τ.size x xs.length l)(h2:dT w S (xs.map τ.aP) l)(h3:xs.length<=140737488355328)(hS:∀ b,S b->S' b)(hb:∀ b,eb x=some b->S' b) :
  Rd w S' (Ty.aP (.slice τ) xs) [x]:=by
 rcases h1.2 with ⟨hv,hn⟩|⟨g,cap,cur,hv,_,hh,XZ,hcm,ka,htk⟩
 .have hx:xs=[]:=b4C hn;subst hx;exact⟨none,0,by simp[hv],by simp,by simp[maxLen],by simp, .inl rfl⟩
 .refine⟨some ⟨g,0,none⟩,cap,by simp[hv],by simpa using XZ,hcm,by simpa using h3,?_⟩;refine .inr ⟨g,0,rfl,hb g (by rw[hv];rfl),?_⟩;refine dT.row _ g 0 (h2.aS hS (λ _ _=>rfl)) λ j v hj=>?_;have:=h1.cells (g:=g) (by rw[hv];rfl) j v hj;rw[Addr.add_lit] at this;exact this
theorem a5l{o:Oper}{τ:Ty}{xs:List τ.den}{e:TypeId}{x:Value}{l:List Value}{Q:Exit->Act->World->Prop}(hI:bu c G sl n lk a w)(hr:(execOp a.eval o).run c.P w = .ok (.value x) w')(hk:bC (λ _=>False) w w')
  (h1:w'.ownsRow 0 e τ.size x xs.length l) (h2:dT w' G.S (xs.map τ.aP) l) (h3:xs.length<=140737488355328) (hb:∀ b,eb x=some b->w.heap.size<=b/\b<w'.heap.size) :
  o.wp c.P a w (Ad c G sl n lk o.dst a w (.aF ⟨.slice τ,xs⟩) none) Q:=by
 unfold Oper.wp;rw[hr];refine⟨x,λ b=>G.S b\/eb x=some b,rfl,hI.grow hk (λ b cz=>⟨λ q=>q.elim id λ q=>absurd (hb b q).1 (by omega), .inl⟩) λ b q=>q.elim (λ q=>Nat.lt_of_lt_of_le (hI.dE b q) hk.size) λ q=>(hb b q).2,?_⟩;exact Zj h1 h2 h3 (λ _ q => .inl q) (λ _ q => .inr q)
theorem SJ{v:TV}(h:v.flat=true){S S':Nat->Prop}{w w':World}{cs:List Value}(hr:Rd w S v.aP cs):Rd w' S' v.aP cs:=by
 have one:∀ u:TV,u.τ.agg=false->(match u.τ with | .slice _=>false | .mv _=>false|_=>true)=true->∀ cs,Rd w S u.aP cs->Rd w' S' u.aP cs:=by
  intro u h1 h2 cs h3;obtain⟨τ,y⟩:=u;cases τ<;>first|exact h3|(cases h1;done)|(simp at h2;done)
 obtain⟨τ,y⟩:=v;cases τ with
 | st s =>
  rw[show TV.aP ⟨.st s,y⟩=s.aP y from rfl,aQ.ct] at hr ⊢;refine dh.dH.2 ((dh.dH.1 hr).imp λ u x hu hx=>?_);refine one u ?_ (b4r.1 h u hu) _ hx;have:=aQ.po s y u hu;obtain⟨bf,z⟩:=u;cases bf with
  | st s'=>simp[TV.aP,Ty.aP,aQ.ct,D.leaf] at this
  | _=>rfl
 | slice t=>simp[TV.flat,TV.cells] at h
 | mv t=>simp[TV.flat,TV.cells] at h
 | ptr=>exact hr
 | int k=>exact hr
 | bool=>exact hr
 | str=>exact hr
theorem VI{v:TV}(h:v.flat=true){S S':Nat->Prop}{w w':World}{x:Value}(hr:dZ w S v x):dZ w' S' v x:=by
 obtain⟨τ,y⟩:=v;cases τ with
 | st s =>
  obtain⟨cs,h1,h2⟩:=hr;exact⟨cs,h1,SJ (v:=⟨.st s,y⟩) h h2⟩
 | _=>exact SJ (v:=⟨_,y⟩) (w:=w) (w':=w') (S:=S) (S':=S') h hr
theorem Fl{lk':Nat->Option aA}(cr:∀ id o,lk' id=some o->lk id=some o):∀ id o,sP lk' id=some o->lk id=some o:=by
 intro id o h;unfold sP at h;split at h
 .rename_i cs hc;simp only[b3t] at h;subst h;exact cr _ _ hc
 .cases h
theorem Fm{lk':Nat->Option aA}:∀ id e τ xs,sP lk' id≠some (.row e τ xs):=by
 intro id e τ xs h;unfold sP at h;split at h<;>simp at h
theorem Br{lk':Nat->Option aA}:∀ id τ xs,sP lk' id≠some (.aw τ xs):=by
 intro id τ xs h;unfold sP at h;split at h<;>simp at h
theorem a3t{τ:Ty}{cs:List Value}{x:τ.den}{S:Nat->Prop}(h:dZ w S ⟨τ,x⟩ (La τ cs))(hl:cs.length=τ.size):Rd w S (τ.aP x) cs:=by
 cases τ with
 | st s =>
  obtain⟨dB,h1,h2⟩:=h;simp only[La,Value.agg.injEq] at h1;have:cs=dB:=by have:=congrArg Array.toList h1;simpa using this
  subst this;exact h2
 | _ =>
  match cs,hl with
  | [v],_=>exact h
theorem CR.fT{v:AV}{x:Value}(h:CR c G lk w v x):VR c G lk w v x:=by
 cases v with
 | aF v=>exact h
 | agg cs=>exact h
 | any=>trivial
 | ei=>exact h
 | iP _=>exact h.elim
 | c9 _ _=>exact h.elim
 | nil=>exact h
 | cZ v=>exact h
 | ptr i o=>exact h
 | row i=>exact h
 | eG i k o=>exact h
 | fn f=>exact h
 | aw i=>exact h
 | sub i k o z=>exact h
 | eP i k o z=>exact h
 | iC v=>exact h
 | mp i=>exact h
theorem C1.a2s{v:AV}{x:Value}(h:C1 c G lk w v x):CR c G lk w v x:=by
 cases v with
 | aF v=>exact C1.fT (v := .aF v) h
 | agg cs=>exact h.elim
 | iP cs=>exact h.elim
 | c9 f cs=>exact h.elim
 | _=>exact h
theorem CR.inv{v:AV}{x:Value}(h:CR c G lk w v x):(∃ u,v = .aF u/\dZ w G.S u x)\/(∃ cs l,v = .agg cs/\x = .agg l.toArray/\aT (C1 c G lk w) cs l)\/C1 c G lk w v x:=by
 cases v with
 | aF v=>exact .inl ⟨v,rfl,h⟩
 | agg cs =>
  obtain⟨l,h1,h2⟩:=h;exact .inr (.inl ⟨cs,l,rfl,h1,h2⟩)
 | _=>exact .inr (.inr h)
theorem VR.a2s{v:AV}{x:Value}(h:VR c G lk w v x)(hc:v.a6B=true):CR c G lk w v x:=by
 cases v with
 | iP _=>cases hc
 | c9 _ _=>cases hc
 | ei=>cases hc
 | iC _=>cases hc
 | _=>exact h
theorem H9{S:Nat->Prop}{lk':Nat->Option aA}(hI:bu c G sl n lk a w)(cr:∀ id o,lk' id=some o->lk id=some o)
  (hH:∀ (τ:Ty) v x (y:τ.den),zI lk' τ v=some y->VR c G lk w v x->dZ w S ⟨τ,y⟩ x) {τ:Ty} {v:AV} {x:Value} {y:τ.den} (hy:deref lk' τ v=some y) (hx:VR c G lk w v x):LW w S (.ref ⟨τ,y⟩) x:=by
 unfold deref at hy;split at hy
 .rename_i u hu;obtain⟨b,o,cs,h1,h2,h3,h4⟩:=qp hI.aK cr hu hx;have h5:=a3t (hH _ _ _ _ hy h4) h3;have PF:=τ.size_pos;have hc0:=h2 0 (cs[0]'(by omega)) (b3Z (by omega));exact⟨b,o,cs,h1,World.block_lt_of_cell? w _ hc0,h2,h5⟩
 .cases hy
theorem EG{S:Nat->Prop}{lk':Nat->Option aA}(hI:bu c G sl n lk a w)(cr:∀ id o,lk' id=some o->lk id=some o)
  (hH:∀ (τ:Ty) v x (y:τ.den),zI lk' τ v=some y->VR c G lk w v x->dZ w S ⟨τ,y⟩ x) :
  ∀ {ks:List (Bool×Ty)} {vs:List AV} {Z9:List Arg} {xs:List Value},pN lk' ks vs=some Z9->aT (CR c G lk w) vs xs->aT (LW w S) Z9 xs
 | [],[],Z9,xs,h,hv=>by
  simp only[pN,b3t] at h;subst h;match xs,hv with
  | [],_=>trivial
 | (true,τ)::ks,v::vs,Z9,xs,h,hv=>by
  simp only[pN] at h;split at h
  .rename_i y hy;split at h
   .rename_i r hr;simp only[b3t] at h;subst h;match xs,hv with
    | x::xs,hv=>exact⟨H9 hI cr hH hy hv.1.fT,EG hI cr hH hr hv.2⟩
   .cases h
  .cases h
 | (false,τ)::ks,v::vs,Z9,xs,h,hv=>by
  simp only[pN] at h;split at h
  .rename_i y hy;split at h
   .rename_i r hr;simp only[b3t] at h;subst h;match xs,hv with
    | x::xs,hv=>exact⟨hH _ _ _ _ hy hv.1.fT,EG hI cr hH hr hv.2⟩
   .cases h
  .cases h
 | [],_::_,_,_,h,_=>by cases h
 | (true,_)::_,[],_,_,h,_=>by cases h
 | (false,_)::_,[],_,_,h,_=>by cases h
theorem xG(hE:bE c.P c.E){f:FuncId}{eO:List Arg}:∀ (ps:List Ty) (r:Ty) (acc:List Arg),Eo c.P f eO ps r (Vn c.E f eO ps r acc) acc
 | [],r,acc=>by
  show (Vn c.E f eO [] r acc).1->_;intro hp;generalize hF:Vn c.E f eO [] r acc=F at hp ⊢;rw[Vn] at hF;split at hF
  .rename_i pre v hc;split at hF
   .rename_i y hy;subst hF;have:=TV.aW hy;subst this;obtain⟨h1,h2⟩:=hE.Q7 f _ _ _ hc hp;exact⟨h1,h2.ok0⟩
   .subst hF;exact hp.elim
  .subst hF;exact hp.elim
 | t::ts,r,acc=>λ x=>xG hE ts r (acc++[.val ⟨t,x⟩])
theorem Sv{P:Program}{f:FuncId}{eO:List Arg}:∀ {ps:List Ty} {r:Ty} {F:FN ps r} {acc Z9:List Arg} {p:Prop} {y:r.den},Eo P f eO ps r F acc->ub ps r F Z9=some (p,y)->p ->
  (jG P f/\Ob P f (acc++Z9++eO) (·=[⟨r,y⟩]))/\∀ z∈Z9,∃ v,z = .val v
 | [],r,F,acc,[],p,y,h,e,hp=>by
  simp only[ub,Option.some.injEq] at e;have h':F.1->jG P f/\Ob P f (acc++eO) (·=[⟨r,F.2⟩]):=h;rw[e] at h';refine⟨by simpa using h' hp,by simp⟩
 | t::ts,r,F,acc, .val z::zs,p,y,h,e,hp=>by
  simp only[ub] at e;split at e
  .rename_i x hx;have h':∀ x,Eo P f eO ts r (F x) (acc++[.val ⟨t,x⟩]):=h;obtain⟨h1,h2⟩:=Sv (h' x) e hp;have:=TV.aW hx;subst this;refine⟨by simpa using h1,λ z hz=>?_⟩;rcases List.mem_cons.1 hz with rfl|hz
   .exact⟨_,rfl⟩
   .exact h2 z hz
  .cases e
 | [],_,_,_,_::_,_,_,_,e,_=>by simp[ub] at e
 | _::_,_,_,_,[],_,_,_,e,_=>by simp[ub] at e
 | _::_,_,_,_, .ref _::_,_,_,_,e,_=>by simp[ub] at e
 | _::_,_,_,_, .fn _::_,_,_,_,e,_=>by simp[ub] at e
 | _::_,_,_,_, .c9 _::_,_,_,_,e,_=>by simp[ub] at e
theorem EK(hE:bE c.P c.E){S:Nat->Prop}{lk':Nat->Option aA}(hI:bu c G sl n lk a w)(cr:∀ id o,lk' id=some o->lk id=some o)(Tu:∀ b,G.S b->S b)
  (hH:∀ (τ:Ty) v x (y:τ.den),zI lk' τ v=some y->VR c G lk w v x->dZ w S ⟨τ,y⟩ x) {g:AV} {x:Value} {q:FV} (h:EJ c.E lk' g=some q) (hx:VR c G lk w g x):Ac c.P w S (.c9 q) x:=by
 unfold EJ at h;split at h
 .rename_i f cs;split at h
  .rename_i k _;split at h
   .rename_i Z9 has;simp only[b3t] at h;subst h;obtain⟨l,h1,h2⟩:=hx;exact⟨f,Z9,l,h1,xG hE _ _ _,EG hI cr hH has h2⟩
   .cases h
  .cases h
 .simp only[b3t] at h;subst h;obtain⟨f,eO,l,h1,h2,h3⟩:=hx;refine⟨f,eO,l,h1,h2,h3.imp λ u y _ hy=>?_⟩;cases u with
  | val v=>exact dZ.mono (G:=G) (G':=⟨S,G.η,G.φ⟩) hy Tu (λ _ _=>rfl)
  | ref v =>
   obtain⟨b,o,cs,k1,k2,k3,k4⟩:=hy;refine⟨b,o,cs,k1,?_,k3,Rd.aS Tu (λ _ _=>rfl) _ k4⟩;exact k2.elim (hI.dE b) λ k=>b3P k.1 hI.aS.size
  | fn f=>exact hy
  | c9 v=>exact hy.elim
  | own v=>exact hy.elim
  | box k=>exact hy.elim
 .rename_i f;split at h
  .rename_i k _;split at h
   .simp only[b3t] at h;subst h;exact⟨f,[],[],hx,xG hE _ _ _,ae⟩
   .cases h
  .cases h
 .cases h
theorem iu(hE:bE c.P c.E){S:Nat->Prop}{lk':Nat->Option aA}(hI:bu c G sl n lk a w)(cr:∀ id o,lk' id=some o->lk id=some o)(Tu:∀ b,G.S b->S b)
  (hH:∀ (τ:Ty) v x (y:τ.den),zI lk' τ v=some y->VR c G lk w v x->dZ w S ⟨τ,y⟩ x) :
  ∀ {Ts:List TypeId} {vs:List AV} {Z9:List Arg} {xs:List Value},mq c.E lk' Ts vs=some Z9->aT (VR c G lk w) vs xs->aT (Ac c.P w S) Z9 xs
 | [],[],Z9,xs,h,hv=>by
  simp only[mq,b3t] at h;subst h;match xs,hv with
  | [],_=>trivial
 | T::Ts,v::vs,Z9,xs,h,hv=>by
  simp only[mq] at h;split at h
  .rename_i p hp;split at h
   .rename_i r hr;simp only[b3t] at h;subst h;match xs,hv with
    | x::xs,hv =>
     refine⟨?_,iu hE hI cr Tu hH hr hv.2⟩;have hx:=hv.1;unfold U6 at hp;split at hp
     .split at hp
      .rename_i y hy;simp only[b3t] at hp;subst hp;exact hH _ _ _ _ hy hx
      .cases hp
     .split at hp
      .rename_i τ _;split at hp
       .rename_i y hy;simp only[b3t] at hp;subst hp;exact H9 hI cr hH hy hx
       .cases hp
      .split at hp
       .rename_i q hq;simp only[b3t] at hp;subst hp;exact EK hE hI cr Tu hH hq hx
       .split at hp
        .simp only[b3t] at hp;subst hp;exact hx
        .cases hp
   .cases h
  .cases h
 | [],_::_,_,_,h,_=>by cases h
 | _::_,[],_,_,h,_=>by cases h
theorem Bv{S:Nat->Prop}{res:List TV}{x:Value}(h:HE w S res x){η:Nat->Value}{φ:Nat->List Nat}:VR c ⟨S,η,φ⟩ lk w (Fu res) x:=by
 match res,h with
 | [v],h=>exact h
 | [],h =>
  obtain⟨l,h1,h2⟩:=h;exact⟨l,h1,aT.en _ h2⟩
 | v::u::r,h =>
  obtain⟨l,h1,h2⟩:=h;exact⟨l,h1,aT.en _ h2⟩
theorem YT{S S':Nat->Prop}{res:List TV}{x:Value}(hf:res.all TV.flat=true)(h:HE w S res x):HE w S' res x:=by
 have kF:∀ v∈res,v.flat=true:=b4r.1 hf;match res,h,kF with
 | [v],h,kF=>exact VI (kF v (by simp)) h
 | [],h,kF =>
  obtain⟨l,h1,h2⟩:=h;exact⟨l,h1,h2.imp λ v y hv hy=>VI (kF v hv) hy⟩
 | v::u::r,h,kF =>
  obtain⟨l,h1,h2⟩:=h;exact⟨l,h1,h2.imp λ v y hv hy=>VI (kF v hv) hy⟩
theorem SD(hE:bE c.P c.E)(hI:bu c G sl n lk a w){lk':Nat->Option aA}(cr:∀ id o,lk' id=some o->lk id=some o){o:Oper}{f:FuncId}{Ts:List TypeId}{vs:List AV}{xs:List Value}
  {vc:Vc} {v:AV} {ob:Option aA} (hq:JO c.E lk' f Ts vs=some (vc,v,ob)) (er:vc.ok) (kc:aT (VR c G lk w) vs xs)
  (cG:jG c.P f->(execOp a.eval o).run c.P w = .ok (.enter f xs.toArray) w) {Q:Exit->Act->World->Prop}:o.wp c.P a w (Ad c G sl n lk o.dst a w v ob) Q:=by
 have fin:∀ (S:Nat->Prop) (Z9:List Arg) (pre:Vc) (res:List TV),c.E.Q7 f Z9=some (pre,res)->pre.ok->aT (Ac c.P w S) Z9 xs->ua w S ->
   (∀ S' w' x,bC (λ _=>False) w w'->(∀ b,b<w.heap.size->(S' b↔S b))->(∀ b,S' b->b<w'.heap.size)->HE w' S' res x->Ad c G sl n lk o.dst a w (Fu res) none (a.put o.dst x) w') ->
   o.wp c.P a w (Ad c G sl n lk o.dst a w (Fu res) none) Q:=by
  intro S Z9 pre res hc yn has bK M5;obtain⟨nF,ig⟩:=hE.Q7 f Z9 pre res hc yn;unfold Oper.wp;rw[cG nF];simp only[Oper.upon];refine (ig w S xs bK has).mono ?_;rintro e w' ⟨x,S',b2B,rfl,rfl,h1,h2,h3,h4⟩;exact M5 S' w' x h1 h2 h3 h4
 unfold JO at hq;split at hq
 .rename_i Z9 has;split at hq
  .rename_i pre res hc;simp only[b3t,b3w] at hq;obtain⟨rfl,rfl,rfl⟩:=hq;refine fin G.S Z9 _ _ hc er (iu hE hI (Fl cr) (λ _ h=>h) (λ τ v x y h1 h2=>HH Fm Br h1 h2) has kc) hI.sOk ?_;intro S' w' x h1 h2 h3 h4;exact⟨x,S',rfl,hI.grow h1 h2 h3,Bv h4⟩
  .cases hq
 .split at hq
  .rename_i Z9 has;split at hq
   .rename_i pre res hc;split at hq
    .rename_i XV;simp only[b3t,b3w] at hq;obtain⟨rfl,rfl,rfl⟩:=hq;refine fin (SX G lk) Z9 _ _ hc er (iu hE hI cr (λ _ h => .inl h) (λ τ v x y h1 h2=>Ag hI.aR hI.aK cr h1 h2) has kc) ?_ ?_
     .exact hI.a2p
     .intro S' w' x h1 h2 h3 h4;exact⟨x,G.S,rfl,hI.grow (S':=G.S) h1 (λ _ _=>b5z) (λ b hb=>b3P (hI.dE b hb) h1.size),Bv (YT XV h4)⟩
    .cases hq
   .cases hq
  .cases hq
theorem Yj{o:Oper}{cl:Call}{fo:Operand}{f:FuncId}{l:List Value}(ho:o.op = .call cl)(hc:cl.callee = .value fo)(hf:a.eval fo = .func (.func f) #[] l.toArray)(nF:jG c.P f) :
  (execOp a.eval o).run c.P w = .ok (.enter f (cl.args.toList.map a.eval++l).toArray) w:=by
 obtain⟨fn,h1,h2,h3⟩:=nF;have h3':(fn.name = "runtime.NumGoroutine")=False:=by simpa using h3
 have h2':fn.body≠none:=by intro e;simp[e] at h2
 simp[execOp,ho,resolve,hc,Deferred.ofValue,hf,invoke,callFunc,h1,h2',h3']
theorem H2(hE:bE c.P c.E)(hI:bu c G sl n lk a w){lk':Nat->Option aA}(cr:∀ id o,lk' id=some o->lk id=some o){o:Oper}{cl:Call}{fo:Operand}{g:AV}{Ts:List TypeId}{vs:List AV}
  {vc:Vc} {v:AV} {ob:Option aA} (hq:CY c.E lk' g Ts vs=some (vc,v,ob)) (er:vc.ok) (kc:aT (VR c G lk w) vs (cl.args.toList.map a.eval)) (bx:o.op = .call cl) (gQ:cl.callee = .value fo) (hg:VR c G lk w g (a.eval fo))
  {Q:Exit->Act->World->Prop}:o.wp c.P a w (Ad c G sl n lk o.dst a w v ob) Q:=by
 have fin:∀ (S:Nat->Prop) (Z9:List Arg) (q:FV) (pre:Prop) (y:q.r.den),ub q.ps q.r q.F Z9=some (pre,y)->pre->aT (Ac c.P w S) Z9 (cl.args.toList.map a.eval)->Ac c.P w S (.c9 q) (a.eval fo)->ua w S ->
   (∀ S' w' x,bC (λ _=>False) w w'->(∀ b,b<w.heap.size->(S' b↔S b))->(∀ b,S' b->b<w'.heap.size)->HE w' S' [⟨q.r,y⟩] x->Ad c G sl n lk o.dst a w (Fu [⟨q.r,y⟩]) none (a.put o.dst x) w') ->
   o.wp c.P a w (Ad c G sl n lk o.dst a w (Fu [⟨q.r,y⟩]) none) Q:=by
  intro S Z9 q pre y hap yn has b2a bK M5;obtain⟨f,eO,l,h1,h2,h3⟩:=b2a;obtain⟨⟨nF,ig⟩,a1B⟩:=Sv h2 hap yn;unfold Oper.wp;rw[Yj bx gQ h1 nF];simp only[Oper.upon];simp only[List.nil_append] at ig;have b1V:aT (LW w S) Z9 (cl.args.toList.map a.eval):=has.imp λ u z hu hz=>by
   obtain⟨v,rfl⟩:=a1B u hu;exact hz
  refine (ig w S _ bK (b1V.append h3)).mono ?_;rintro e w' ⟨x,S',b2B,rfl,rfl,h1,h2,h3,h4⟩;exact M5 S' w' x h1 h2 h3 h4
 unfold CY at hq;split at hq
 .rename_i r0 V9;split at V9
  .rename_i Z9 has;split at V9
   .rename_i q hqq;split at V9
    .rename_i pre y hap;simp only[b3t] at V9 hq;subst V9;simp only[b3w] at hq;obtain⟨rfl,rfl,rfl⟩:=hq;refine fin G.S Z9 q pre y hap er (iu hE hI (Fl cr) (λ _ h=>h) (λ τ v x y h1 h2=>HH Fm Br h1 h2) has kc) (EK hE hI (Fl cr) (λ _ h=>h) (λ τ v x y h1 h2=>HH Fm Br h1 h2) hqq hg) hI.sOk ?_;intro S' w' x h1 h2 h3 h4;exact⟨x,S',rfl,hI.grow h1 h2 h3,Bv h4⟩
    .cases V9
   .cases V9
  .cases V9
 .split at hq
  .rename_i Z9 has;split at hq
   .rename_i q hqq;split at hq
    .rename_i pre y hap;split at hq
     .rename_i XV;simp only[b3t,b3w] at hq;obtain⟨rfl,rfl,rfl⟩:=hq;refine fin (SX G lk) Z9 q pre y hap er (iu hE hI cr (λ _ h => .inl h) (λ τ v x y h1 h2=>Ag hI.aR hI.aK cr h1 h2) has kc) (EK hE hI cr (λ _ h => .inl h) (λ τ v x y h1 h2=>Ag hI.aR hI.aK cr h1 h2) hqq hg) ?_ ?_
      .exact hI.a2p
      .intro S' w' x h1 h2 h3 h4;exact⟨x,G.S,rfl,hI.grow (S':=G.S) h1 (λ _ _=>Iff.rfl) (λ b hb=>Nat.lt_of_lt_of_le (hI.dE b hb) h1.size),Bv (YT (res:=[⟨q.r,y⟩]) (by simpa using XV) h4)⟩
     .cases hq
    .cases hq
   .cases hq
  .cases hq
theorem gR{o:Oper}{cl:Call}{fo:Operand}{f:FuncId}(ho:o.op = .call cl)(hc:cl.callee = .value fo)(hf:a.eval fo = .func (.func f) #[] #[])(nF:jG c.P f) :
  (execOp a.eval o).run c.P w = .ok (.enter f (cl.args.toList.map a.eval).toArray) w:=by
 obtain⟨fn,h1,h2,h3⟩:=nF;have h3':(fn.name = "runtime.NumGoroutine")=False:=by simpa using h3
 have h2':fn.body≠none:=by intro e;simp[e] at h2
 simp[execOp,ho,resolve,hc,Deferred.ofValue,hf,invoke,callFunc,h1,h2',h3'];apply b7k;simp
theorem aT.lC{ev:Operand->AV}(cU:∀ x,VR c G lk w (ev x) (a.eval x)):∀ l:List Operand,aT (VR c G lk w) (l.map ev) (l.map a.eval)
 | []=>trivial
 | x::r=>⟨cU x,aT.lC cU r⟩
theorem aT.J2{ev:Operand->AV}(cU:∀ x,VR c G lk w (ev x) (a.eval x)):∀ l:List (Nat×Operand),
  aT (λ p q=>p.1=q.1/\VR c G lk w p.2 q.2) (l.map λ p=>(p.1,ev p.2)) (l.map λ p=>(p.1,a.eval p.2))
 | []=>trivial
 | x::r=>⟨⟨rfl,cU x.2⟩,aT.J2 cU r⟩
theorem jN{S:Nat->Prop}{t:Ty}{xs:List t.den}{x:Value}(h:dZ w S ⟨.slice t,xs⟩ x):∃ ad cap,x = .slice ad xs.length cap/\xs.length<=cap/\xs.length<=140737488355328 /\
  (xs=[]\/∃ b o,ad=some ⟨b,o,none⟩/\S b/\dq w S (xs.map t.aP) b o):=by
 obtain⟨ad,cap,h1,h2,h3,h4,h5⟩:=h;simp only[List.cons.injEq,and_true,List.length_map] at h1;exact⟨ad,cap,h1,by simpa using h2,by simpa using h4,h5.imp (λ h=>by simpa using h) id⟩
theorem a8N(lo hi m n:Int)(h1:lo<=m/\m<=hi)(h2:lo<=n/\n<=hi):lo<=max m n/\max m n<=hi:=by omega
theorem a8M(m n:Int):(if n>m then n else m)=max m n:=by
 rw[Int.max_def];split<;>split<;>omega
theorem Vy:∀ {us vs:List TV} {e:Bool},Vx us vs=some e->us.length=vs.length/\(∀ u∈us,u.τ = .int .i64)
 | [],[],e,h=>⟨rfl,by simp⟩
 | ⟨.int .i64,a⟩::r,⟨.int .i64,b⟩::q,e,h=>by
  simp only[Vx] at h;split at h
  .rename_i t ht;obtain⟨h1,h2⟩:=Vy ht;exact⟨by simp[h1],λ u hu=>(b3S.1 hu).elim (λ e=>by rw[e]) (h2 u)⟩
  .cases h
theorem YK(hE:bE c.P c.E)(d:Nat){xs ys:Array Value}:∀ (l:List Field) (us vs:List TV) (k:Nat) (e:Bool),Vx us vs=some e->l.length=us.length ->
  (∀ i f,l[i]?=some f->f.name ≠ "_" /\ (∃ b e,ah c.E.ty f.type=some (.int .i64,b,e))/\f.offset=k+i) ->
  (∀ i n,us[i]?=some ⟨.int .i64,n⟩->xs[k+i]?=some (.int .i64 n))->(∀ i n,vs[i]?=some ⟨.int .i64,n⟩->ys[k+i]?=some (.int .i64 n))->(Op.eqFields (d+1) xs ys l).run c.P w = .ok e w
 | [],[],[],k,e,h,_,_,_,_=>by
  simp only[Vx,b3t] at h;subst h;rfl
 | f::l,⟨.int .i64,a⟩::r,⟨.int .i64,b⟩::q,k,e,h,hl,hf,hx,hy=>by
  simp only[Vx] at h;split at h
  .rename_i t ht;simp only[Option.some.injEq] at h;subst h;obtain⟨n1,⟨b1,e1,n2⟩,n3⟩:=hf 0 f rfl;have ih:=YK hE d l r q (k+1) t ht (by simpa using hl) (λ i f hi=>by
    obtain⟨m1,m2,m3⟩:=hf (i+1) f (by simpa using hi);exact⟨m1,m2,by rw[m3];omega⟩) (λ i n hi=>by have:=hx (i+1) n (by simpa using hi);rwa [show k+(i+1)=k+1+i by omega] at this) (λ i n hi=>by have:=hy (i+1) n (by simpa using hi);rwa [show k+(i+1)=k+1+i by omega] at this)
   have p1:∀ (zs:Array Value) n,zs[k]?=some (.int .i64 n)->(part f.type zs f.offset).run c.P w = .ok (.int .i64 n) w:=λ zs n hz=>by
    simp only[part,b4c,hE.isAgg n2,b3X,Ty.agg,b3C,b6c];rw[n3,b5s,hz];rfl
   simp only[Op.eqFields,b4d n1,b4c,p1 xs a (hx 0 a rfl),p1 ys b (hy 0 b rfl),b3X,run_equalIn_int w d f.type .i64 .i64 a b (hE.int n2)];by_cases kE:a=b
   .subst kE;simp only[beq_self_eq_true,b3B,b3C,b6c,ih,b4j,b4F]
   .have:(a == b)=false:=by simpa using kE
    simp[this,kE]
  .cases h
theorem a3T(hE:bE c.P c.E){op:BinOp}{T:TypeId}{u v r:AV}{x y:Value}{p:Vc}(ox oy:Operand)
  (h:a3S c.E op T u v=some (p,r)) (hu:VR c G lk w u x) (hv:VR c G lk w v y) :
  ∃ z,(do eqGuard op T ox oy x y;binOp op T x y:Sem Value).run c.P w = .ok z w/\VR c G lk w r z:=by
 unfold a3S at h;split at h;case h_2=>cases h
 case h_1 s rest x0 y0 hl =>
 obtain⟨rb,re⟩:=rest;split at h;case h_2=>cases h
 case h_1 a b hc ha hb =>
 split at h;case h_2=>cases h
 case h_1 e he =>
 have:=TV.aW ha;subst this;have:=TV.aW hb;subst this;have VW:=hE.cmp T hc;unfold ZS at VW;simp only[Bool.and_eq_true,Bool.not_eq_true',List.all_eq_true,decide_eq_true_eq] at VW;obtain⟨g1,g2,g3⟩:=VW;obtain⟨fs,q1,q2,q3⟩:=hE.st hl;have hfo:c.P.fieldsOf T=fs:=by simp only[Program.fieldsOf,q1]
 obtain⟨hlen,hint⟩:=Vy he;have nB:∀ (z:s.den),(∀ u∈s.fields z,u.τ = .int .i64)->s.cells z=s.fields z:=λ z hz=>by
  rw[aQ.BH];have:∀ (l:List TV),(∀ u∈l,u.τ = .int .i64)->l.flatMap TV.cells=l:=λ l=>by
   induction l with
   | nil=>intro _;rfl
   | cons u l ih =>
    intro hu;rw[b6R,ih λ v hv=>hu v (b5c _ hv)];obtain⟨τ,n⟩:=u;have:=hu ⟨τ,n⟩ (by simp);simp only at this;subst this;rfl
  exact this _ hz
 have hft:∀ (z:s.den),(∀ t∈s.fu,t = .int .i64)->∀ u∈s.fields z,u.τ = .int .i64:=λ z hz u hu=>hz _ (by rw[<-aQ.lU s z];exact b3E.2 ⟨u,hu,rfl⟩);have hty:∀ t∈s.fu,t = .int .i64:=λ t ht=>by
  rw[<-aQ.lU s a] at ht;obtain⟨u,hu,rfl⟩:=b3E.1 ht;exact hint u hu
 have p6:∀ (z:s.den) (zv:Value),dZ w G.S ⟨.st s,z⟩ zv->∃ cs:List Value,zv = .agg cs.toArray/\∀ i n,(s.fields z)[i]?=some ⟨.int .i64,n⟩->cs.toArray[0+i]?=some (.int .i64 n):=λ z zv hz=>by
  obtain⟨cs,k1,k2⟩:=hz;refine⟨cs,k1,λ i n hi=>?_⟩;rw[aQ.ct,nB z (hft z hty)] at k2;have k3:=dh.dH.1 k2;have:∀ (us:List TV) (cs:List Value) (i:Nat),aT (λ v x=>Rd w G.S v.aP [x]) us cs->us[i]?=some ⟨.int .i64,n⟩->cs[i]?=some (.int .i64 n):=by
   intro us;induction us with
   | nil=>intro cs i _ hi;simp at hi
   | cons u us ih =>
    intro cs i h2 hi;cases cs with
    | nil=>exact h2.elim
    | cons x cs =>
     cases i with
     | zero =>
      simp only[List.getElem?_cons_zero,Option.some.injEq] at hi ⊢;subst hi;have h3:=h2.1;obtain⟨h4,_⟩:=h3;simpa using h4
     | succ i=>simpa using ih cs i h2.2 (by simpa using hi)
  simpa using this _ _ i k3 hi
 obtain⟨xs,rfl,kc⟩:=p6 a x hu;obtain⟨ys,rfl,Ng⟩:=p6 b y hv;have b2m:∀ i,i<=s.fu.length->s.eW i=i:=λ i hi=>by
  unfold aQ.eW;have:∀ (l:List Ty) (i:Nat),(∀ t∈l,t = .int .i64)->i<=l.length->((l.take i).map Ty.size).sum=i:=by
   intro l;induction l with
   | nil=>intro i _ hi;simp at hi;subst hi;rfl
   | cons t l ih =>
    intro i ht hi;cases i with
    | zero=>rfl
    | succ i =>
     rw[List.take_succ_cons,List.map_cons,List.sum_cons,ih i (λ u hu=>ht u (List.mem_cons_of_mem _ hu)) (by simpa using hi),ht t (by simp)];show 1+i=i+1;omega
  exact this _ i hty hi
 have cG:(Op.equalIn 10000 T (.agg xs.toArray) (.agg ys.toArray)).run c.P w = .ok e w:=by
  rw[run_equalIn_agg w 9999 T _ _ (by rw[q1,hfo]) g2,hfo];refine YK hE 9998 fs.toList (s.fields a) (s.fields b) 0 e he ?_ (λ i f hi=>?_) kc Ng
  .rw[b4A,q2,<-aQ.lU s a,b3M]
  .have lZ:fs[i]?=some f:=by simpa using hi
   obtain⟨t,b',e',m1,m2,m3⟩:=q3 i f lZ;have ht:=hty t (b4S m1);subst ht;refine⟨g3 f (by rw[hfo];exact b4S hi),⟨b',e',m2⟩,?_⟩;rw[m3,b2m i (Nat.le_of_lt (b4p.1 m1).1),b5b]
 have hg:=run_eqGuard_agg w op T ox oy xs.toArray ys.toArray g1;split at h
 .simp only[b3t,b3w] at h;obtain⟨rfl,rfl⟩:=h;exact⟨.bool e,by rw[b4c,hg,b3X,run_eql_struct,cG];rfl,rfl⟩
 .simp only[b3t,b3w] at h;obtain⟨rfl,rfl⟩:=h;exact⟨.bool (!e),by rw[b4c,hg,b3X,run_neq_struct,cG];rfl,rfl⟩
 .cases h
theorem a1N(hE:bE c.P c.E){op:BinOp}{T:TypeId}{u v r:AV}{x y:Value}{p:Vc}(ox oy:Operand)
  (h:a0v c.E op T u v=some (p,r)) (hp:p.ok) (hu:VR c G lk w u x) (hv:VR c G lk w v y) :
  ∃ z,(do eqGuard op T ox oy x y;binOp op T x y:Sem Value).run c.P w = .ok z w/\VR c G lk w r z:=by
 unfold a0v at h;split at h
 .rename_i t r1 τ xs hl;have hy:y = .slice none 0 0:=hv;subst hy;obtain⟨r1,r2⟩:=r1;obtain⟨hT,_⟩:=hE.slice hl;obtain⟨a,cap,h1,_,h3⟩:=jN hu;subst h1;have heq:(Op.equal T (.slice a xs.length cap) (.slice none 0 0)).run c.P w = .ok a.isNone w:=by
   have h9:∀ d:Nat,(Op.equalIn (d+1) T (.slice a xs.length cap) (.slice none 0 0)).run c.P w = .ok a.isNone w:=λ d=>by
    cases a<;>simp[Op.equalIn,b4v hT]
   exact h9 9999
  have key:1<=xs.length->a.isNone=false:=λ hx=>by
   rcases h3.2 with h|⟨b,o,h,_⟩
   .subst h;simp at hx
   .subst h;rfl
  split at h
  .simp only[b3t,b3w] at h;obtain⟨rfl,rfl⟩:=h;refine⟨.bool false,?_,rfl⟩;simp only[eqGuard_at_slice,b4c,b4i,b3X,binOp,heq,key hp]
  .simp only[b3t,b3w] at h;obtain⟨rfl,rfl⟩:=h;refine⟨.bool true,?_,rfl⟩;simp only[eqGuard_at_slice,b4c,b4i,b3X,binOp,heq,key hp];rfl
  .cases h
 .exact a3T hE ox oy h hu hv
theorem a5S{S:Nat->Prop}{t:Ty}{ys:List t.den}{ad:Option Addr}{m cap:Nat}(h1:ys.length=m)(h2:m<=cap)(h3:cap<=maxLen)(h4:m<=140737488355328)
  (h5:ys=[]\/∃ b o,ad=some ⟨b,o,none⟩/\S b/\dq w S (ys.map t.aP) b o):dZ w S ⟨.slice t,ys⟩ (.slice ad m cap):=by
 subst h1;exact⟨ad,cap,by simp,by simpa using h2,h3,by simpa using h4,h5.imp (λ h=>by simp[h]) id⟩
theorem qF(hE:bE c.P c.E){T:TypeId}{t:Ty}{b e:Nat}(h:ah c.E.ty T=some (.slice t,b,e)){bk o len cap:Nat}{k:IntKind}{i:Int}(h0:0<=i)(h1:i<len)(w:World) :
  (Instr.indexAt T (.slice (some ⟨bk,o,none⟩) len cap) (.int k i)).run c.P w = .ok (.pointer (some ⟨bk,o+i.toNat * t.size,none⟩)) w:=by
 obtain⟨h2,⟨b',e',h3⟩,_⟩:=hE.slice h;simp[Instr.indexAt,b4v h2,asIntOf,h0,h1,hE.sizeOf h3 w,b5J]
theorem Lt(s:aQ)(y:s.den)(i:Nat){f:TV}(hf:(s.fields y)[i]?=some f):((s.cells y).drop (s.eW i)).take f.τ.size=f.cells/\s.eW i+f.τ.size<=s.size:=by
 have EZ:∀ v:TV,v.cells.length=v.τ.size:=by
  rintro⟨τ,x⟩;cases τ<;>first|rfl|exact aQ.iS _ _
 have key:∀ (l:List TV) (i:Nat) (f:TV),l[i]?=some f->((l.flatMap TV.cells).drop ((l.map TV.τ).take i |>.map Ty.size).sum).take f.τ.size=f.cells/\(((l.map TV.τ).take i).map Ty.size).sum+f.τ.size<=(l.flatMap TV.cells).length:=by
  intro l;induction l with
  | nil=>intro i f h;simp at h
  | cons g l ih =>
   intro i f h;cases i with
   | zero =>
    simp at h;subst h;have:=EZ g;simp only[b4z,b5q,List.sum_nil,b5F,b6R,b3J,b5b];exact⟨by rw[<-this,b5G],by omega⟩
   | succ i =>
    obtain⟨h1,h2⟩:=ih i f (by simpa using h);simp only[List.map_cons,List.take_succ_cons,List.sum_cons,List.flatMap_cons,List.length_append,<-EZ g];refine⟨?_,by omega⟩;rw[<-List.drop_drop,List.drop_left];exact h1
 have:=key _ i f hf;rw[<-aQ.BH,aQ.lU,aQ.iS] at this;exact this
theorem Ie{S:Nat->Prop}{s:aQ}{y:s.den}{i:Nat}{f:TV}(hf:(s.fields y)[i]?=some f){cs:List Value}(h:Rd w S (TV.aP ⟨.st s,y⟩) cs):Rd w S f.aP ((cs.drop (s.eW i)).take f.τ.size):=by
 obtain⟨h1,_⟩:=Lt s y i hf;rw[show TV.aP ⟨.st s,y⟩=s.aP y from rfl,aQ.ct] at h;have h2:=((dh.dH.1 h).drop (s.eW i)).take f.τ.size;rw[h1] at h2;obtain⟨τ,x⟩:=f;cases τ with
 | st s' =>
  show Rd w S (s'.aP x) _;rw[aQ.ct];exact dh.dH.2 h2
 | _ =>
  simp only[TV.cells] at h2;match hc:(cs.drop (s.eW i)).take (Ty.size _),h2 with
  | [v],h2=>exact h2.1
theorem a1n{S:Nat->Prop}{s:aQ}{y:s.den}{i:Nat}{f:TV}(hf:(s.fields y)[i]?=some f){cs:List Value}(h:Rd w S (s.aP y) cs):s.eW i+f.τ.size<=cs.length/\True:=by
 obtain⟨_,h1⟩:=Lt s y i hf;have:=Rd.length _ h;rw[aQ.ct] at this;simp only[D.size,b3M,aQ.iS] at this;exact⟨by omega,ae⟩
theorem Ty.size_le(τ:Ty):τ.size<=100:=by
 have:∀ s:aQ,s.size<=100:=by intro s;cases s<;>decide
 cases τ<;>first|exact this _|(simp[Ty.size];done)
theorem Rd.mX{S:Nat->Prop}{τ:Ty}{x:τ.den}{cs:List Value}(h:Rd w S (τ.aP x) cs):∀ u∈cs,u.oneCell'=true:=by
 cases τ with
 | st s =>
  rw[show Ty.aP (.st s) x=s.aP x from rfl,aQ.ct] at h;have ha:=dh.dH.1 h;intro u hu;obtain⟨i,hi,hiu⟩:=b6j hu;have hlen:=ha.length;obtain⟨b,hb,hr⟩:=ha.at_ i (s.cells x)[i] (b3Z (by omega));have hbu:b=u:=by
   have:cs[i]?=some u:=by rw[b3Z hi,hiu]
   rw[this] at hb;exact (b6l hb).symm
  subst hbu;obtain⟨z,h1,h2⟩:=Rd.uY (aQ.po s x _ (b4Q _)) hr;simp only[b3F,b3L] at h1;subst h1;exact Bf h2
 | _ =>
  obtain⟨z,rfl,h2⟩:=Rd.uY (jx (v:=⟨_,x⟩) rfl) h;intro u hu;simp only[b4e] at hu;subst hu;exact Bf h2
theorem dT.mX{S:Nat->Prop}{τ:Ty}:∀ {xs:List τ.den} {l:List Value},dT w S (xs.map τ.aP) l->∀ u∈l,u.oneCell'=true
 | [],l,h=>by rw[show l=[] from h];simp
 | x::xs,l,h=>by
  obtain⟨c1,r,rfl,h2,h3⟩:=h;intro u hu;rcases b3y.1 hu with hu|hu
  .exact Rd.mX h2 u hu
  .exact dT.mX h3 u hu
def Src(w:World)(S:Nat->Prop)(τ:Ty)(ys:List τ.den)(z:Value):Prop :=
 ∃ ad cap,z = .slice ad ys.length cap/\(ys=[]\/∃ b o news,ad=some ⟨b,o,none⟩/\cd w b o news/\dT w S (ys.map τ.aP) news)
theorem Jl{lk lk':Nat->Option aA}(cr:∀ id o,lk' id=some o->lk id=some o)(id:Nat)(o:aA)(h:Qg lk' id=some o):lk id=some o:=by
 unfold Qg at h;split at h
 .cases h
 .exact cr id o h
theorem a1O{lk:Nat->Option aA}(id:Nat)(τ:Ty)(xs:List τ.den):Qg lk id≠some (.aw τ xs):=by
 unfold Qg;split
 .simp
 .rename_i gm;exact gm _ _
theorem a4e(lq:∀ id o,lk id=some o->OR c G lk w id o){lk':Nat->Option aA}(cr:∀ id o,lk' id=some o->lk id=some o)(Tz:∀ id τ xs,lk' id≠some (.aw τ xs)){τ:Ty}{v:AV}{z:Value}{ys:List τ.den}(h:jH lk' (.slice τ) v=some ys)
  (hv:C1 c G lk w v z):Src w G.S τ ys z:=by
 cases v with
 | aF u =>
  have e:=TV.aW h;subst e;obtain⟨ad,cap,h1,h2,h3,h4⟩:=jN (show dZ w G.S ⟨.slice τ,ys⟩ z from hv.2);refine⟨ad,cap,h1,h4.imp id ?_⟩;rintro⟨b,o,h5,h6,h7⟩;obtain⟨news,h8,h9⟩:=dq.cells _ b o h7;exact⟨b,o,news,h5,h9,h8⟩
 | nil =>
  simp only[jH,b3t] at h;subst h;exact⟨none,0,hv, .inl rfl⟩
 | row id =>
  simp only[jH] at h;split at h
  .rename_i e bf xs hl;have e1:=TV.aW h;cases e1;have nP:=cr _ _ hl;obtain⟨l,h1,h2,h3⟩:=lq _ _ nP;rcases h1.2 with ⟨hv',hn⟩|⟨g,cap,cur,hv',_⟩
   .exact⟨none,0,by rw[hv.1,hv',hn], .inl (b4C hn)⟩
   .refine⟨some ⟨g,0,none⟩,cap,by rw[hv.1,hv'], .inr ⟨g,0,l,rfl,?_,h2⟩⟩;intro j u hj;have:=h1.cells (g:=g) (by rw[hv'];rfl) j u hj;rw[b5J] at this;exact this
  .cases h
 | aw id =>
  simp only[jH] at h;split at h
  .rename_i hl;exact absurd hl (Tz _ _ _)
  .cases h
 | _=>cases h
theorem Sw{S:Nat->Prop}{base:Nat}(hE:bE c.P c.E){T:TypeId}{τ:Ty}{b e n:Nat}{v z:Value}{l:List Value}{ys:List τ.den}(hT:ah c.E.ty T=some (.slice τ,b,e))(nR:w.ownsRow base e τ.size v n l)
  (a6R:base<=w.heap.size) (hH:Src w S τ ys z) (E3:aY (n+ys.length) b) (ty:TypeId) :
  ∃ v' w' news,(Builtin.append_ #[T,T] ty #[v,z]).run c.P w = .ok v' w'/\w'.ownsRow base e τ.size v' (n+ys.length) (l++news)/\w.grownBy w' v.ownBlock/\(v'.ownBlock=v.ownBlock\/v'.ownBlock=some w.heap.size) /\
   dT w S (ys.map τ.aP) news/\n+ys.length<=140737488355328:=by
 obtain⟨k1,⟨b',e',k2⟩,i,zv,k3,k4,k5,k6,k7⟩:=hE.slice hT;have Wg:zv.cells.size=τ.size:=by
  have:=Rd.length _ (QO (w:=w) (S:=S) k7);rwa [Ty.cM,b4A] at this
 have PF:=τ.size_pos;have TB:(n+ys.length) * b<=140737488355328/\n+ys.length<=140737488355328:=by
  unfold aY at E3;rw[Nat.mul_add,Nat.mul_one] at E3;omega
 have PD:n+ys.length<=maxLen:=by simp only[maxLen];omega
 obtain⟨ad,cap,h1,h4⟩:=hH;subst h1;by_cases hy:ys=[]
 .subst hy;simp only[b3T,b5s] at *
  cases ad with
  | none =>
   refine⟨v,w,[],?_,by simpa using nR,⟨rfl,rfl,rfl,Nat.le_refl _,λ _ _ _=>rfl⟩, .inl rfl,rfl,TB.2⟩;rcases nR.2 with ⟨rfl,rfl⟩|⟨g,SE,cur,rfl,_,_,XZ,_⟩
   .simp[Builtin.append_,b4v k1,sizeOf,typeInfo,k3,Builtin.lenOf,Builtin.firstCells]
   .simp[Builtin.append_,b4v k1,sizeOf,typeInfo,k3,Builtin.lenOf,Builtin.firstCells,XZ,storeCells]
  | some ad =>
   obtain⟨v',w',m1,m2,m3,_,m5⟩:=run_append_own_at (P:=c.P) w base T ty e i zv τ.size b k1 k3 k6 k4 k5 Wg PF v n l nR ad 0 cap [] (by simp) (by simp) (by simp) PD TB.1 a6R;exact⟨v',w',[],m1,m2,m3,m5,rfl,TB.2⟩
 .rcases h4 with h4|⟨bk,o',news,rfl,h8,h7⟩
  .exact absurd h4 hy
  .skip;have hlen:news.length=ys.length * τ.size:=by
    have:=dT.length (n:=τ.size) _ h7 (by
     intro d hd;obtain⟨y,_,rfl⟩:=b3E.1 hd;exact Ty.cM τ y)
    simpa using this
   obtain⟨v',w',m1,m2,m3,_,m5⟩:=run_append_own_at (P:=c.P) w base T ty e i zv τ.size b k1 k3 k6 k4 k5 Wg PF v n l nR ⟨bk,o',none⟩ ys.length cap news hlen (λ j u hj=>by rw[b5J];exact h8 j u hj) (dT.mX h7) PD TB.1 a6R;exact⟨v',w',news,m1,m2,m3,m5,h7,TB.2⟩
theorem Vj{ev:Operand->AV}(cU:∀ x,VR c G lk w (ev x) (a.eval x)){d l:Int}{lo:Option Operand}(h:pM d (lo.map ev)=some l):(lo=none/\l=d)\/∃ k,lo.map a.eval=some (.int k l):=by
 cases lo with
 | none =>
  simp only[b6w,pM,b3t] at h;exact .inl ⟨rfl,h.symm⟩
 | some x =>
  simp only[b5S,pM] at h;split at h
  .rename_i hn;cases hn
  .rename_i k n hn;simp only[b3t] at h hn;subst h;have hx:=cU x;rw[hn] at hx;obtain⟨hx,_⟩:=hx;simp only[b3F,b3L] at hx;exact .inr ⟨k,by simp[hx]⟩
  .cases h
theorem SB{ev:Operand->AV}(cU:∀ x,VR c G lk w (ev x) (a.eval x)){l h:Int}{len cap:Nat}{lo hi:Option Operand}(sl:Bool)(hl:pM 0 (lo.map ev)=some l)(hh:pM (len:Int) (hi.map ev)=some h)
  (hc:cB l h len) (FY:len<=cap) (P:Program) (w':World):(Instr.sliceBounds sl len cap (lo.map a.eval) (hi.map a.eval) none).run P w' = .ok (l.toNat,h.toNat,cap) w':=by
 obtain⟨h0,h1,h2⟩:=hc;have e1:(h.toNat:Int)=h:=Int.toNat_of_nonneg (by omega);rcases Vj cU hl with ⟨rfl,rfl⟩|⟨k,hk⟩<;>rcases Vj cU hh with ⟨rfl,rfl⟩|⟨k',lF⟩
 .simp[Instr.sliceBounds]
 .simp[Instr.sliceBounds,lF,b7g,show 0<=h from by omega,show h<=(cap:Int) from by omega]
 .simp[Instr.sliceBounds,hk,b7g,h0,h1]
 .simp[Instr.sliceBounds,hk,lF,b7g,h0,h1,show 0<=h from by omega,show h<=(cap:Int) from by omega,e1]
theorem S2{n m:Int}{b:Nat}(h:bJ n m b):0<=n/\n<=m/\m<=140737488355328/\(b:Int) * m<=140737488355328:=by
 obtain⟨h1,h2,h3⟩:=h;have e:m * ((b:Int)+1)=m * b+m:=by rw[Int.mul_add,Int.mul_one]
 have p:0<=m * (b:Int):=Int.mul_nonneg (by omega) (by omega);have q:(b:Int) * m=m * b:=Int.mul_comm _ _;exact⟨h1,h2,by omega,by omega⟩
theorem a5B(hE:bE c.P c.E){T:TypeId}{τ:Ty}{b e:Nat}(hT:ah c.E.ty T=some (.slice τ,b,e)){n m:Int}(h:bJ n m b)(w:World)
  (cw:∀ w',bC (λ _=>False) w w'->∀ b,G.S b->w'.heap[b]?=w.heap[b]?) :
  ∃ cap cs,(Instr.makeSlice T (.int .i64 n) (.int .i64 m)).run c.P w = .ok (.slice (some ⟨w.heap.size,0,none⟩) n.toNat cap) (w.alloc (.cells cs e)) /\
   a4b c G lk (w.alloc (.cells cs e)) (.slice (some ⟨w.heap.size,0,none⟩) n.toNat cap) (.row e τ (List.replicate n.toNat τ.zero)):=by
 obtain⟨v1,v2,v3,v4⟩:=S2 h;obtain⟨h1,_,i,z,h3,h4,h5,h6,h7⟩:=hE.slice hT;have hzr:=QO (w:=w) (S:=G.S) h7;have hzl:=Rd.length _ hzr;rw[Ty.cM,b4A] at hzl;have hr:=run_make (P:=c.P) w T e i z h1 h3 h6 .i64 .i64 n m v1 v2 (by rw[h5];omega) (by omega);refine⟨m.toNat,madeCells z.cells (m.toNat * i.size),hr,(madeCells z.cells (n.toNat * z.cells.size)).toList,?_,?_,by simp;omega⟩
 .refine⟨by simp[madeCells,hzl], .inr ⟨w.heap.size,m.toNat,madeCells z.cells (m.toNat * i.size),by simp,b4G _,b6C w _,by simp;omega,by simp only[maxLen];omega,by simp[size_madeCells,h4],?_⟩⟩;rw[h4,hzl,List.length_replicate];exact Gw _ _ _ (b5v _ (by omega))
 .rw[b7w];exact dT.aS (λ _ h=>h) (cw _ (gv w _)) _ (LG hzr n.toNat)
theorem bE.map(hE:bE c.P c.E){T:TypeId}{κ ε:Ty}(h:ah c.E.mty T=some (κ,ε))(w:World) :
  ∃ kT eT,c.P.underlying T=some (.map kT eT)/\c.P.underlying kT=some (descOf κ)/\κ.key=true/\ε.key=true/\∃ z,(zeroValue eT).run c.P w = .ok z w/\wM ε ε.zero z:=by
 have:=hE.mty T κ ε h;unfold WK at this;split at this
 .rename_i k e hu;split at this
  .rename_i κ' r ε' r' hk he;simp only[b3A,b3v] at this;obtain⟨rfl,rfl,h3,h4⟩:=this;obtain⟨i,z,k1,k2,k3,k4⟩:=(hE.info he).ex;have hz:=QO (w:=w) (S:=λ _=>False) k4;refine⟨k,e,hu,?_,h3,h4,z,by simp[zeroValue,typeInfo,k1,k3],?_⟩
   .obtain⟨b,e'⟩:=r;cases κ' with
    | int q=>exact hE.int hk
    | bool=>exact hE.bool hk
    | str=>exact hE.str hk
    | _=>cases h3
   .have hc:z.cells.toList=[z]:=by
     cases ε'<;>cases z<;>first|rfl|(cases h4;done)|(simp[BB,zG] at k4;done)
    rw[hc] at hz;exact wM.of h4 hz
  .cases this
 .cases this
theorem NO(hE:bE c.P c.E)(hI:bu c G sl n lk a w){lk':Nat->Option aA}(cr:∀ id o,lk' id=some o->lk id=some o){ev:Operand->AV}(cU:∀ x,VR c G lk w (ev x) (a.eval x))
  {o:Oper} {vc:Vc} {v:AV} {ob:Option aA} (hq:NN c.E lk' ev o=some (vc,v,ob)) (er:vc.ok) {Q:Exit->Act->World->Prop} :
  o.wp c.P a w (Ad c G sl n lk o.dst a w v ob) Q:=by
 unfold NN at hq;split at hq;case h_1 x bx =>
  simp only[b3t,b3w] at hq;obtain⟨rfl,rfl,rfl⟩:=hq;exact cH hI (by simp[execOp,bx]) (cU x)
 case h_2 x bx =>
  simp only[b3t,b3w] at hq;obtain⟨rfl,rfl,rfl⟩:=hq;exact cH hI (by simp[execOp,bx]) (cU x)
 case h_3 cc x y bx =>
  split at hq
  .rename_i hc;simp only[b3t,b3w] at hq;obtain⟨rfl,rfl,rfl⟩:=hq;have h1:=cU cc;rw[hc] at h1;have h1:[a.eval cc]=[.bool true]:=h1;simp only[b3F,b3L] at h1;exact cH hI (by simp[execOp,bx,h1,asBool]) (cU x)
  .rename_i hc;simp only[b3t,b3w] at hq;obtain⟨rfl,rfl,rfl⟩:=hq;have h1:=cU cc;rw[hc] at h1;have h1:[a.eval cc]=[.bool false]:=h1;simp only[b3F,b3L] at h1;exact cH hI (by simp[execOp,bx,h1,asBool]) (cU y)
  .cases hq
 case h_4 T bx =>
  split at hq
  .rename_i d τ r hd hT;simp only[b3t,b3w] at hq;obtain⟨rfl,rfl,rfl⟩:=hq;obtain⟨i,z,h1,h2,h3,h4⟩:=(hE.info hT).ex;refine C4 hI (x := .pointer (some ⟨w.heap.size,0,none⟩)) (w':=w.alloc (.cells z.cells T)) ?_ (hI.alloc _) ⟨d,hd,rfl⟩ ?_ ?_
   .simp[execOp,bx,Instr.alloc,zeroValue,typeInfo,h1,h3,newVar,newRow]
   .exact⟨_,z.cells.toList,T,rfl,by simpa using heap_alloc_new w _,kK h4⟩
   .intro b hb;simp only[eb,b3t] at hb;subst hb;simp
  .cases hq
 case h_5 T x bx =>
  split at hq
  .rename_i d τ r hd hT;split at hq
   .split at hq
    .rename_i y hy;simp only[b3t,b3w] at hq;obtain⟨rfl,rfl,rfl⟩:=hq;have hH:=dZ.cells (Om (c:=c) (G:=G) (lk:=lk) hy (cU x));have hk:=gv w (.cells (a.eval x).cells T);have cJ:(w.alloc (.cells (a.eval x).cells T)).heap.size=w.heap.size+1:=by simp
     have zU:=hI.grow (S':=λ b=>G.S b\/b=w.heap.size) hk (λ b hb=>⟨λ h=>h.elim id λ e=>by omega, .inl⟩) (λ b hb=>by
      rcases hb with hb|hb
      .have:=hI.dE b hb;omega
      .omega)
     have cG:(execOp a.eval o).run c.P w = .ok (.value (.pointer (some ⟨w.heap.size,0,none⟩))) (w.alloc (.cells (a.eval x).cells T)):=by
      simp[execOp,bx,Instr.box,newVar,newRow]
     unfold Oper.wp;rw[cG];refine⟨_,_,rfl,zU,?_⟩;refine⟨w.heap.size,0,(a.eval x).cells.toList,rfl, .inl (.inr rfl),?_,Rd.aS (λ _ h => .inl h) (λ b hb=>hk.block b (hI.dE b hb) λ h=>h) _ hH⟩;have:=heap_alloc_new w (.cells (a.eval x).cells T);exact H5 (p:=[]) (c:=(a.eval x).cells.toList) (r:=[]) (by simpa using this)
    .cases hq
   .split at hq
    .rename_i cs ka;simp only[b3t,b3w] at hq;obtain⟨rfl,rfl,rfl⟩:=hq;obtain⟨h1,_,_⟩:=BG ka (cU x);refine C4 hI (x := .pointer (some ⟨w.heap.size,0,none⟩)) (w':=w.alloc (.cells (a.eval x).cells T)) ?_ (hI.alloc _) ⟨d,hd,rfl⟩ ?_ ?_
     .simp[execOp,bx,Instr.box,newVar,newRow]
     .exact⟨_,(a.eval x).cells.toList,T,rfl,by simpa using heap_alloc_new w _,h1.imp λ u y _ hy=>hI.b0r (gv w _) hy⟩
     .intro b hb;simp only[eb,b3t] at hb;subst hb;simp
    .cases hq
  .cases hq
 case h_6 T parts bx =>
  split at hq
  .rename_i s r hT;split at hq
   .rename_i cs ka;simp only[b3t,b3w] at hq;obtain⟨rfl,rfl,rfl⟩:=hq;obtain⟨i,z,h1,h2,h3,h4⟩:=(hE.info hT).ex;obtain⟨fs,h5,h6,h7⟩:=hE.st hT;have hpl:fs.toList.mapM (λ f=>(c.P.info? f.type).map λ i=>(f.offset,i.size))=some (fs.toList.map λ f=>(f.offset,c.P.cellsOf f.type)):=by
     have:∀ l:List Field,(∀ f∈l,∃ i,c.P.info? f.type=some i)->l.mapM (λ f=>(c.P.info? f.type).map λ i=>(f.offset,i.size))=some (l.map λ f=>(f.offset,c.P.cellsOf f.type)):=by
      intro l;induction l with
      | nil=>intro _;rfl
      | cons f l ih =>
       intro hl;obtain⟨i,hi⟩:=hl f (by simp);simp[b5Y,hi,ih λ f hf=>hl f (by simp[hf]),Program.cellsOf]
     refine this _ λ f hf=>?_;obtain⟨j,hj,hjf⟩:=List.getElem_of_mem hf;obtain⟨t,b,e,_,k2,_⟩:=h7 j f (by rw[Array.getElem?_eq_getElem (by simpa using hj)];simpa using hjf);obtain⟨i,_,hi,_⟩:=(hE.info k2).ex;exact⟨i,hi⟩
    have a8G:∀ i t,s.fu[i]?=some t->(fs.toList.map λ f=>(f.offset,c.P.cellsOf f.type)).toArray[i]?=some (s.eW i,t.size):=by
     intro i t hi;have bK:i<fs.size:=by have:=(b4p.1 hi).1;omega
     obtain⟨t',b,e,k1,k2,k3⟩:=h7 i fs[i] (b4J bK);rw[hi] at k1;simp only[b3t] at k1;subst k1;obtain⟨i',_,lZ,cJ,_⟩:=(hE.info k2).ex;simp[bK,k3,Program.cellsOf,lZ,cJ]
    obtain⟨l',h8,h9⟩:=LP (c:=c) (G:=G) (lk:=lk) (w:=w) a8G ka (aT.J2 cU _) (kK h4);have hb:c.P.built T ((parts.map λ (i,x)=>(i,a.eval x)).toList)=some l'.toArray:=by
     unfold Program.built;rw[h1,h5];simp only[h3,hpl];rw[<-h8];congr 1;simp
    refine cH hI (x := .agg l'.toArray) ?_ ⟨l',rfl,h9⟩;simp[execOp,bx,run_build w T _ _ hb]
   .cases hq
  .cases hq
 case h_7 T len parts bx =>
  split at hq
  .rename_i d τ b e hd hT;split at hq
   .rename_i hlen;split at hq
    .rename_i xs kc;simp only[b3A] at hlen;have hl1:=b3x hlen.1;have hl2:=b4B hlen.2;subst hl1;obtain⟨h1,⟨b',e',h2⟩,i,z,h3,h4,h5,h6,h7⟩:=hE.slice hT;have PF:=τ.size_pos;have PD:τ.size<=100:=Ty.size_le τ;have Pw:parts.size * τ.size<=16777216:=b5r (b6D hl2 PD) (by decide);obtain⟨r,h8,h9⟩:=Ls (c:=c) (G:=G) (lk:=lk) (w:=w) (τ:=τ) (place:=λ i=>some (i * τ.size,τ.size)) (λ _=>rfl) (l:=((Array.range (parts.size * τ.size)).map (λ j=>((if parts.size * τ.size=0 then #[] else z.cells:Array Value)[j % (if parts.size * τ.size=0 then #[] else z.cells:Array Value).size]!))).toList) kc (aT.J2 cU _) (by simp);have uQ:=FU kc;simp only[b3M,b4A] at uQ;have cJ:∀ d∈xs.map τ.aP,d.size=τ.size:=by
      intro d hd;obtain⟨y,_,rfl⟩:=b3E.1 hd;exact Ty.cM τ y
     have hrl:=dT.length _ h9 cJ;simp only[b3M,uQ] at hrl;simp only[b6v,b4z,b3Y,b4E] at h8;have cG:(execOp a.eval o).run c.P w = .ok (.value (.slice (some ⟨w.heap.size,0,none⟩) parts.size parts.size)) (w.alloc (.cells r.toArray e)):=by
      have e2:(parts.map λ (i,x)=>(i,a.eval x)).toList=parts.toList.map λ p=>(p.1,a.eval p.2):=by simp
      have gm:¬ (parts.size * τ.size>2 ^ 24):=by omega
      simp only[execOp,bx,Instr.buildSlice,b4c,b4v h1,b3X,hE.sizeOf h2,b3H gm,b4i];by_cases h0:parts.size * τ.size=0
      .simp only[h0,b5u,b4c,b4i,b3X,e2] at h8 ⊢;rw[h8];simp[newRow]
      .simp only[h0,b6c,b4c,zeroValue,typeInfo,run_program,b3X,h3,h6,b4i,e2] at h8 ⊢;rw[h8];simp[newRow]
     have ho:(w.alloc (.cells r.toArray e)).ownsRow 0 e τ.size (.slice (some ⟨w.heap.size,0,none⟩) parts.size parts.size) xs.length r:=by
      rw[uQ];have:=World.ownsRow_lit (base:=0) (e:=e) (size:=τ.size) w r.toArray parts.size (Nat.zero_le _) (by simp only[maxLen];omega) (by simpa using hrl);simpa using this
     have hH:=dT.aS (λ _ h=>h) (λ b hb=>hI.a0E (gv w (.cells r.toArray e)) b (.inl hb)) _ h9;have iD:∀ b,eb (.slice (some ⟨w.heap.size,0,none⟩) parts.size parts.size)=some b->w.heap.size<=b/\b<(w.alloc (.cells r.toArray e)).heap.size:=by
      intro b hb;simp only[eb,b3t] at hb;subst hb;simp
     split at hq
     .simp only[b3t,b3w] at hq;obtain⟨rfl,rfl,rfl⟩:=hq;exact a5l hI cG (gv w _) ho hH (by omega) iD
     .simp only[b3t,b3w] at hq;obtain⟨rfl,rfl,rfl⟩:=hq;exact C4 hI cG (hI.alloc _) ⟨d,hd,rfl⟩ ⟨r,ho,hH,by omega⟩ iD
    .cases hq
   .cases hq
  .cases hq
 case h_8 T ad bx =>
  split at hq
  .rename_i τ r hT;split at hq
   .rename_i u hu;simp only[b3t,b3w] at hq;obtain⟨rfl,rfl,rfl⟩:=hq;obtain⟨b,o',cs,h1,h2,h3,h4⟩:=qp hI.aK cr hu (cU ad);refine cH hI ?_ h4;simp only[execOp,bx,h1,b4c,jM hE hT h2 h3,b3X,b4i]
   .cases hq
  .cases hq
 case h_9 x bx =>
  have key:∀ u,ev x=u->(∃ b o,a.eval x = .pointer (some ⟨b,o,none⟩))->vc = .none->v=u->ob=none->o.wp c.P a w (Ad c G sl n lk o.dst a w v ob) Q:=by
   rintro u hu ⟨b,o',hx⟩ _ rfl rfl;refine cH hI (x:=a.eval x) ?_ (hu ▸ cU x);simp only[execOp,bx,hx,b4i]
  have hx:=cU x;split at hq
  .rename_i u hu;simp only[b3t,b3w] at hq;rw[hu] at hx;obtain⟨b,o',cs,h1,_⟩:=hx;exact key _ hu ⟨b,o',h1⟩ hq.1.symm hq.2.1.symm hq.2.2.symm
  .rename_i id off hu;simp only[b3t,b3w] at hq;rw[hu] at hx;obtain⟨b,_,h1,_⟩:=hx;exact key _ hu ⟨b,off,h1⟩ hq.1.symm hq.2.1.symm hq.2.2.symm
  .rename_i id i off hu;simp only[b3t,b3w] at hq;rw[hu] at hx;obtain⟨b,_,_,_,_,_,_,_,_,h1⟩:=hx;exact key _ hu ⟨b,_,h1⟩ hq.1.symm hq.2.1.symm hq.2.2.symm
  .cases hq
 case h_10 T x i bx =>
  split at hq
  .rename_i s r hT;have hx:=cU x;split at hq
   .rename_i u hu;rw[hu] at hx;split at hq
    .rename_i y hy;have e:=TV.aW hy;subst e;split at hq
     .rename_i f hf;simp only[b3t,b3w] at hq;obtain⟨rfl,rfl,rfl⟩:=hq;obtain⟨b,o',cs,h1,h2,h3,h4⟩:=hx;have bK:i<s.fu.length:=by
       have:=(b4p.1 hf).1;rw[<-aQ.lU s y,b3M];exact this
      refine cH hI (x := .pointer (some ⟨b,o'+s.eW i,none⟩)) ?_ ?_
      .simp only[execOp,bx,h1,b4c,kt hE hT bK,b3X,b4i]
      .refine⟨b,o'+s.eW i,(cs.drop (s.eW i)).take f.τ.size,rfl,h2,h3.part _ _,?_⟩;exact Ie hf h4
     .cases hq
    .cases hq
   .rename_i id off hu;rw[hu] at hx;split at hq
    .rename_i bK;simp only[Option.some.injEq,Prod.mk.injEq] at hq;obtain⟨rfl,rfl,rfl⟩:=hq;have bK:i<s.fu.length:=by simpa [Nat.blt_eq] using bK
     obtain⟨b,h1,h2,h3⟩:=hx;refine cH hI (x := .pointer (some ⟨b,off+s.eW i,none⟩)) ?_ ⟨b,h1,rfl,h3⟩;simp only[execOp,bx,h2,b4c,kt hE hT bK,b3X,b4i]
    .cases hq
   .rename_i id k off hu;rw[hu] at hx;split at hq
    .rename_i bK;simp only[Option.some.injEq,Prod.mk.injEq] at hq;obtain⟨rfl,rfl,rfl⟩:=hq;have bK:i<s.fu.length:=by simpa [Nat.blt_eq] using bK
     obtain⟨b,m,cap,e,τ,xs,h1,h2,h3,h4⟩:=hx;refine cH hI (x := .pointer (some ⟨b,k * τ.size+(off+s.eW i),none⟩)) ?_ ⟨b,m,cap,e,τ,xs,h1,h2,h3,rfl⟩;simp only[execOp,bx,h4,b4c,kt hE hT bK,b3X,b4i,b6s]
    .cases hq
   .cases hq
  .cases hq
 case h_11 T x i bx =>
  split at hq
  .rename_i s r hT;have hx:=cU x;split at hq
   .rename_i u hu;rw[hu] at hx;split at hq
    .rename_i y hy;have e:=TV.aW hy;subst e;split at hq
     .rename_i f hf;simp only[b3t,b3w] at hq;obtain⟨rfl,rfl,rfl⟩:=hq;obtain⟨cs,h1,h2⟩:=hx;have hty:s.fu[i]?=some f.τ:=by rw[<-aQ.lU s y,b5k,hf];rfl
      obtain⟨h3,h4⟩:=a1n hf h2;refine cH hI (x:=La f.τ ((cs.drop (s.eW i)).take f.τ.size)) ?_ (dZ.mk_ (Ie hf h2));simp only[execOp,bx,h1,b4c,Xk hE hT hty h3,b3X,b4i]
     .cases hq
    .cases hq
   .rename_i cs hu;rw[hu] at hx;split at hq
    .rename_i τ jr;split at hq
     .rename_i u hg;simp only[b3t,b3w] at hq;obtain⟨rfl,rfl,rfl⟩:=hq;obtain⟨l,h1,h2⟩:=hx;obtain⟨h3,h4,h5⟩:=Im h2 hg;refine cH hI (x:=La τ ((l.drop (s.eW i)).take τ.size)) ?_ h3;simp only[execOp,bx,h1,b4c,Xk hE hT jr h5,b3X,b4i]
     .cases hq
    .cases hq
   .cases hq
  .cases hq
 case h_12 T x ix bx =>
  split at hq
  .rename_i τ r hT;split at hq
   .rename_i k i hi;have uO:=cU ix;rw[hi] at uO;obtain⟨uO,_⟩:=uO;simp only[b3F,b3L] at uO;have hx:=cU x;split at hq
    .rename_i u hu;rw[hu] at hx;split at hq
     .rename_i xs kc;have e:=TV.aW kc;subst e;simp only[b3t,b3w] at hq;obtain⟨rfl,rfl,rfl⟩:=hq;obtain⟨h0,h1⟩:=er;obtain⟨ad,cap,h2,h3,h4,h5⟩:=jN hx;rcases h5 with h5|⟨b,o',h5,h6,h7⟩
      .subst h5;simp only[b3T] at h1;omega
      .subst h5;have bK:i.toNat<xs.length:=by omega
       obtain⟨cs,m1,m2,m3⟩:=dq.at_ (n:=τ.size) _ b o' h7 (by
        intro d hd;obtain⟨y,_,rfl⟩:=b3E.1 hd;exact Ty.cM τ y) i.toNat (τ.aP (xs.getD i.toNat τ.zero)) (by simp[List.getD,bK])
       refine cH hI (x := .pointer (some ⟨b,o'+i.toNat * τ.size,none⟩)) ?_ ⟨b,_,cs,rfl, .inl h6,m3,m2⟩;simp only[execOp,bx,h2,uO,b4c,qF hE hT h0 h1,b3X,b4i]
     .cases hq
    .rename_i id hu;rw[hu] at hx;split at hq
     .rename_i e' bf xs hl;split at hq
      .rename_i jr;have jr:=b4l jr;subst jr;simp only[b3t,b3w] at hq;obtain⟨rfl,rfl,rfl⟩:=hq;obtain⟨h0,h1⟩:=er;obtain⟨h2,_,_⟩:=hx;have nP:=cr _ _ hl;obtain⟨l,m1,_,_⟩:=hI.aK _ _ nP;have bK:i.toNat<xs.length:=by omega
       rcases m1.2 with ⟨_,hn⟩|⟨g,cap,cur,hv,_⟩
       .omega
       .refine cH hI (x := .pointer (some ⟨g,0+i.toNat * bf.size,none⟩)) ?_ ⟨g,_,cap,e',bf,xs,hv,nP,bK,by simp⟩;simp only[execOp,bx,h2,hv,uO,b4c,qF hE hT h0 h1,b3X,b4i]
      .cases hq
     .cases hq
    .cases hq
   .cases hq
  .cases hq
 case h_13 T x ix bx =>
  split at hq
  .rename_i r hT;split at hq
   .rename_i k i hi;have uO:=cU ix;rw[hi] at uO;obtain⟨uO,_⟩:=uO;simp only[b3F,b3L] at uO;have hx:=cU x;split at hq
    .rename_i xs hu;rw[hu] at hx;simp only[Option.some.injEq,Prod.mk.injEq] at hq;obtain⟨rfl,rfl,rfl⟩:=hq;obtain⟨s,h1,h2,h3⟩:=hx;simp only[List.cons.injEq,and_true] at h1;subst h2;have cJ:s.data.toList.length=s.size:=Array.length_toList;have er:ak i s.data.toList.length:=er;unfold ak at er;rw[cJ] at er;have bK:Int.toNat i<s.size:=by omega
     have he:s.data.toList.getD (Int.toNat i) 0=s[Int.toNat i]'bK:=by
      have h5:Int.toNat i<s.data.size:=bK;rw[List.getD_eq_getElem?_getD,List.getElem?_eq_getElem (by simpa using h5)];rfl
     have hr:(execOp a.eval o).run c.P w = .ok (.value (.int .u8 (s[Int.toNat i]'bK).toNat)) w:=by
      simp only[execOp,bx,h1,uO,b4c,run_index_string w T s k i (hE.str hT)];rw[dif_pos er];rfl
     refine cH hI hr ⟨by rw[he],?_⟩;have:=(s.data.toList.getD (Int.toNat i) 0).toNat_lt;exact⟨Int.natCast_nonneg _,by simp only[IntKind.max,IntKind.signed,IntKind.bits,b3C,b6c];omega⟩
    .cases hq
   .cases hq
  .cases hq
 case h_14 op T x y yt bx =>
  split at hq
  .rename_i p u hu;simp only[b3t,b3w] at hq;obtain⟨rfl,rfl,rfl⟩:=hq;obtain⟨z,h1,h2⟩:=a1N hE x y hu er (cU x) (cU y);refine cH hI ?_ h2;simp only[execOp,bx];rw[b4c,h1];rfl
  .split at hq
   .rename_i p u hu;simp only[b3t,b3w] at hq;obtain⟨rfl,rfl,rfl⟩:=hq;obtain⟨z,h1,h2⟩:=a2J hE x y hu er (cU x) (cU y);refine cH hI ?_ h2;simp only[execOp,bx];rw[b4c,h1];rfl
   .cases hq
 case h_15 op xt x bx =>
  split at hq
  .rename_i b hb;simp only[b3t,b3w] at hq;obtain⟨rfl,rfl,rfl⟩:=hq;have hx:=cU x;rw[hb] at hx;have hx:[a.eval x]=[.bool b]:=hx;simp only[b3F,b3L] at hx;exact cH hI (x := .bool !b) (by simp[execOp,bx,hx,Op.unary]) rfl
  .rename_i k i hb;simp only[b3t,b3w] at hq;obtain⟨rfl,rfl,rfl⟩:=hq;have hx:=cU x;rw[hb] at hx;obtain⟨hx,_⟩:=hx;simp only[b3F,b3L] at hx;have hr:=eM er;have h0:(0:Int) - i = -i:=Int.zero_sub _;exact cH hI (x := .int k (-i)) (by simp[execOp,bx,hx,Op.unary,Op.intArith,h0,tW hr]) ⟨rfl,hr⟩
  .cases hq
 case h_16 src dst x bx =>
  split at hq
  .rename_i k1 r1 k2 r2 hs hd;split at hq
   .rename_i k3 i Dm;simp only[b3t,b3w] at hq;obtain⟨rfl,rfl,rfl⟩:=hq;have hx:=cU x;rw[Dm] at hx;obtain⟨hx,_⟩:=hx;simp only[b3F,b3L] at hx;have hr:=eM er;refine cH hI (x := .int k2 i) ?_ ⟨rfl,hr⟩;simp[execOp,bx,hx,convert,b4v (hE.int hs),b4v (hE.int hd),Conv.intToInt,tW hr]
   .cases hq
  .cases hq
 case h_18 t i bx =>
  split at hq
  .rename_i vs ht;split at hq
   .rename_i u hu;simp only[b3t,b3w] at hq;obtain⟨rfl,rfl,rfl⟩:=hq;have hx:=cU t;rw[ht] at hx;obtain⟨l,h1,h2⟩:=hx;obtain⟨z,h3,h4⟩:=h2.at_ i u hu;refine cH hI (x:=z) ?_ ?_
    .simp[execOp,bx,Instr.extract,h1,h3]
    .cases u<;>first|exact h4|exact h4.elim|trivial
   .cases hq
  .cases hq
 case h_19 T l cc bx =>
  split at hq
  .rename_i d τ b e hd hT;split at hq
   .rename_i m m' hm hm';simp only[b3t,b3w] at hq;obtain⟨rfl,rfl,rfl⟩:=hq;have hl:=cU l;have hc:=cU cc;rw[hm] at hl;rw[hm'] at hc;obtain⟨hl,_⟩:=hl;obtain⟨hc,_⟩:=hc;simp only[b3F,b3L] at hl hc;obtain⟨cap,cs,h1,h2⟩:=a5B (c:=c) (G:=G) (lk:=lk) hE hT er w (λ w' hk b hb=>hI.a0E hk b (.inl hb));refine C4 hI ?_ (hI.alloc _) ⟨d,hd,rfl⟩ h2 ?_
    .simp only[execOp,bx,hl,hc,b4c,h1,b3X,b4i]
    .intro b hb;simp only[eb,b3t] at hb;subst hb;simp
   .cases hq
  .cases hq
 case h_17 T x lo hi mx bx =>
  split at hq
  .rename_i τ r hT;have hx:=cU x;split at hq
   .rename_i u hu;rw[hu] at hx;split at hq
    .rename_i xs kc;have e:=TV.aW kc;subst e;split at hq
     .rename_i l h hl hh;simp only[b3t,b3w] at hq;obtain⟨rfl,rfl,rfl⟩:=hq;obtain⟨ad,cap,h2,h3,h4,h5⟩:=jN hx;obtain⟨k1,⟨b',e',k2⟩,_⟩:=hE.slice hT;have hb:=SB cU true hl hh er h3 c.P w;obtain⟨v0,v1,v2⟩:=er;have cG:(execOp a.eval o).run c.P w = .ok (.value (.slice (if cap=l.toNat then ad else ad.map (·.add (l.toNat * τ.size))) (h.toNat - l.toNat) (cap - l.toNat))) w:=by
       simp only[execOp,bx,h2,Instr.sliceAt,b4c,b4v k1,b3X,Instr.slice,b6w,hb,hE.sizeOf k2,b4i]
      refine cH hI cG ?_;have hlen:((xs.take h.toNat).drop l.toNat).length=h.toNat - l.toNat:=by
       rw[b4L,b3R];omega
      refine a5S hlen (by omega) ?_ (by omega) ?_
      .have:=hx;obtain⟨ad',SE,m1,m2,m3,_⟩:=this;rw[h2] at m1;simp only[b3F,b5e,b3L] at m1;obtain⟨_,_,rfl⟩:=m1;omega
      .rcases b4y l.toNat h.toNat with bK|hge
       .right;rcases h5 with h5|⟨b,o',rfl,h6,h7⟩
        .subst h5;simp only[b3T] at v2;omega
        .refine⟨b,o'+l.toNat * τ.size,?_,h6,?_⟩
         .rw[b3H (by omega)];simp[b5J]
         .rw[List.map_drop,List.map_take];refine dq.a6I _ _ _ _ (dq.a8c _ _ _ _ h7) ?_;intro d hd;obtain⟨y,_,rfl⟩:=b3E.1 (List.mem_of_mem_take hd);exact Ty.cM τ y
       .left;exact b4C (by omega)
     .cases hq
    .cases hq
   .cases hq
  .rename_i r hT;have hx:=cU x;split at hq
   .rename_i xs hu;rw[hu] at hx;split at hq
    .rename_i l h hl hh;simp only[b3t,b3w] at hq;obtain⟨rfl,rfl,rfl⟩:=hq;obtain⟨s,h1,h2,h3⟩:=hx;simp only[b3F,b3L] at h1;subst h2;have cJ:s.data.toList.length=s.size:=b4A;rw[cJ] at er hh;have hb:=SB cU false hl hh er (b4h _) c.P w;obtain⟨v0,v1,v2⟩:=er;refine cH hI (x := .string (s.extract l.toNat h.toNat)) ?_ ⟨_,rfl,?_,?_⟩
     .have gm:¬ ((none:Option Value).isSome=true):=by simp
      simp only[execOp,bx,h1,Instr.sliceAt,b4c,b4v (hE.str hT),b3X,Instr.slice,b6w,b3H gm,hb,b4i]
     .rw[Lib.extract_data,List.drop_take]
     .have:(s.extract l.toNat h.toNat).size<=s.size:=by
       rw[ByteArray.size_extract];omega
      omega
    .cases hq
   .cases hq
  .cases hq
 case h_20 cl bx =>
  have dw:=aT.lC cU cl.args.toList;split at hq
  .rename_i gQ;split at hq
   .rename_i T v1 hTs B0;rw[B0] at dw;match kc:cl.args.toList.map a.eval,dw with
    | [x],dw =>
     have hx:=dw.1;have Pr:cl.argTypes = #[T]:=by rw[<-b4E (xs:=cl.argTypes),hTs]
     have IA:cl.args.map a.eval = #[x]:=by rw[<-b4E (xs:=cl.args.map a.eval),b5y,kc]
     have VY:(execOp a.eval o)=(do let d <-resolve a.eval cl o.type;invoke d.target d.args):=by simp[execOp,bx]
     have SO:(execOp a.eval o).run c.P w=((Builtin.len_ #[T] o.type #[x]).run c.P w).andThen λ v w => .ok (.value v) w:=by
      rw[VY];simp[resolve,gQ,invoke,builtin,Pr,IA]
     split at hq
     .rename_i t r hT;obtain⟨k1,_,_⟩:=hE.slice hT;have hel:c.P.elem T=r.2:=by simp[Program.elem,k1]
      have cG:∀ ad len cap,x = .slice ad len cap->(execOp a.eval o).run c.P w = .ok (.value (.int .i64 len)) w:=by
       intro ad len cap hxx;rw[SO,hxx,run_len_slice w T o.type ad len cap (by rw[hel];exact k1)];rfl
      have eL:∀ m:Nat,m<=140737488355328->IntKind.i64.min<=(m:Int)/\(m:Int)<=IntKind.i64.max:=λ m hm=>eM (k := .i64) ⟨by omega,by omega⟩;split at hq
      .simp only[b3t,b3w] at hq;obtain⟨rfl,rfl,rfl⟩:=hq;exact cH hI (cG _ _ _ hx) ⟨rfl,eL 0 (by omega)⟩
      .rename_i t' xs;simp only[b3t,b3w] at hq;obtain⟨rfl,rfl,rfl⟩:=hq;obtain⟨ad,cap,h2,h3,h4,h5⟩:=jN hx;exact cH hI (cG _ _ _ h2) ⟨rfl,eL _ h4⟩
      .rename_i id;split at hq
       .rename_i e' bf xs hl;simp only[b3t,b3w] at hq;obtain⟨rfl,rfl,rfl⟩:=hq;obtain⟨h2,_,_⟩:=hx;have nP:=cr _ _ hl;obtain⟨ad,cap,h3,_,h4,_⟩:=jN (t:=bf) (a4W (hI.aK _ _ nP) nP);exact cH hI (cG _ _ _ (h2.trans h3)) ⟨rfl,eL _ h4⟩
       .cases hq
      .cases hq
     .rename_i r hT;split at hq
      .rename_i xs;simp only[b3t,b3w] at hq;obtain⟨rfl,rfl,rfl⟩:=hq;obtain⟨s,h1,h2,h3⟩:=hx;simp only[b3F,b3L] at h1;subst h2;have cJ:s.data.toList.length=s.size:=b4A;have eL:bS .i64 (s.size:Int):=⟨by omega,by omega⟩;refine cH hI (x := .int .i64 s.size) ?_ ⟨by rw[cJ],by rw[cJ];exact eM eL⟩;rw[SO,h1,run_len_string w T o.type s (hE.str hT)];rfl
      .cases hq
     .rename_i hT;split at hq
      .cases hq
      .cases hq
     .cases hq
   .cases hq
  .rename_i gQ;split at hq
   .rename_i d T T' hd hTs;split at hq
    .rename_i τ b e VT hT;split at hq
     .rename_i y B0;split at hq
      .rename_i ys Ng;simp only[b3t,b3w] at hq;obtain⟨rfl,rfl,rfl⟩:=hq;have VT:=b3x VT;subst VT;rw[B0] at dw;match kc:cl.args.toList.map a.eval,dw with
       | [x,z],dw =>
        obtain⟨hx,hz,_⟩:=dw;have hx:x = .slice none 0 0:=hx;subst hx;have Pr:cl.argTypes = #[T,T]:=by rw[<-b4E (xs:=cl.argTypes),hTs]
        have IA:cl.args.map a.eval = #[.slice none 0 0,z]:=by rw[<-b4E (xs:=cl.args.map a.eval),b5y,kc]
        have SO:(execOp a.eval o).run c.P w=((Builtin.append_ #[T,T] o.type #[.slice none 0 0,z]).run c.P w).andThen λ v w => .ok (.value v) w:=by
         simp[execOp,bx,resolve,gQ,invoke,builtin,Pr,IA]
        have hzc:C1 c G lk w y z:=by
         refine hz.Zy ?_;cases y with
         | aF u =>
          have e:=TV.aW Ng;subst e;rfl
         | nil=>rfl
         | row i=>rfl
         | aw i=>rfl
         | _=>cases Ng
        have hH:=a4e hI.aK (Jl cr) a1O Ng hzc;obtain⟨v',w',news,m1,m2,m3,m4,m5,m6⟩:=Sw (w:=w) (base:=w.heap.size) hE hT (World.ownsRow_nil w _ e τ.size) (Nat.le_refl _) hH (n:=0) (by rw[Nat.zero_add];exact er) o.type;have hk:bC (λ _=>False) w w':=⟨m3.os,m3.tape,m3.output,m3.size,λ b hb _=>m3.block b hb (by simp[Value.ownBlock])⟩;simp only[Nat.zero_add,List.nil_append] at m2;refine C4 hI (x:=v') (w':=w') ?_ (hI.grow (S':=G.S) hk (λ _ _=>Iff.rfl) (λ b hb=>Nat.lt_of_lt_of_le (hI.dE b hb) hk.size)) ⟨d,hd,rfl⟩ ⟨news,?_,?_,by simpa using m6⟩ ?_
        .rw[SO,m1];rfl
        .exact⟨m2.1,m2.2.imp id λ ⟨g,cap,cur,q1,q2,q3⟩=>⟨g,cap,cur,q1,b4G _,q3⟩⟩
        .exact dT.aS (λ _ h=>h) (λ b hb=>hI.a0E hk b (.inl hb)) _ m5
        .intro b hb;have TA:=(sx (w:=w') (v:=v') (e:=e) ⟨m2.1,m2.2.imp id λ ⟨g,cap,cur,q1,q2,q3⟩=>⟨g,cap,cur,q1,b4G _,q3⟩⟩);have cz:v'.ownBlock=some b:=TA.trans hb;exact m2.lt b cz
      .cases hq
     .cases hq
    .cases hq
   .cases hq
  .rename_i gQ;split at hq
   .rename_i k m k' n B0;split at hq
    .rename_i hk;have hk:=b4l hk;subst hk;simp only[b3t,b3w] at hq;obtain⟨rfl,rfl,rfl⟩:=hq;rw[B0] at dw;match kc:cl.args.toList.map a.eval,dw with
     | [x,z],dw =>
      obtain⟨⟨hx,hx2⟩,⟨hz,hz2⟩,_⟩:=dw;simp only[b3F,b3L] at hx hz;subst hx hz;have IA:cl.args.map a.eval = #[.int k' m, .int k' n]:=by rw[<-b4E (xs:=cl.args.map a.eval),b5y,kc]
      refine cH hI (x := .int k' (max m n)) ?_ ⟨rfl,?_⟩
      .have hm:=a8M m n;simp[execOp,bx,resolve,gQ,invoke,builtin,IA,Builtin.max_,Builtin.max2];exact hm
      .exact a8N _ _ _ _ hx2 hz2
    .cases hq
   .cases hq
  .rename_i f gQ;exact SD hE hI cr hq er dw (λ nF=>gR bx gQ rfl nF)
  .rename_i t gQ;split at hq
   .rename_i f hf;have hx:=cU (.tmp t);rw[hf] at hx;exact SD hE hI cr hq er dw (λ nF=>gR bx gQ hx nF)
   .rename_i f cs hf;have hx:=cU (.tmp t);rw[hf] at hx;exact H2 hE hI cr hq er dw bx gQ hx
   .rename_i v hf;have hx:=cU (.tmp t);rw[hf] at hx;exact H2 hE hI cr hq er dw bx gQ hx
   .cases hq
  .cases hq
 case h_21 T bx =>
  cases hq
 case h_22 T x ix ok bx=>cases hq
 case h_23 fn first captured bx =>
  split at hq
  .rename_i f a8C FY;have ka:=aT.lC cU captured.toList;have cG:(execOp a.eval o).run c.P w = .ok (.value (.func (.func f) #[] (captured.toList.map a.eval).toArray)) w:=by
    have hf:first = #[]:=by rw[<-b4E (xs:=first),a8C]
    simp[execOp,bx,Instr.makeFunc,hf];apply b7k;simp
   split at hq
   .rename_i tg;simp only[b3t,b3w] at hq;obtain⟨rfl,rfl,rfl⟩:=hq;rw[tg] at ka;match hl:captured.toList.map a.eval,ka with
    | [],_ =>
     rw[hl] at cG;exact cH hI cG rfl
   .simp only[b3t,b3w] at hq;obtain⟨rfl,rfl,rfl⟩:=hq;exact cH hI cG ⟨_,rfl,ka.imp λ u y hu hy=>hy.a2s (b4r.1 FY u hu)⟩
  .cases hq
 case h_24=>cases hq
end
end Go.Proofs.YtmjfpcajohhbeaaGreatDoor

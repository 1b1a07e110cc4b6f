/- VmTypes, VmCore, VmRead, VmOwn, VmMap, VmInv, VmEnv, VmVals, VmRuns, VmMake, VmOps. -/
import Derived.KernelRfl
import GoSem.Claim
import Derived.Orders
import Derived.Laws.AppendOwn
import Derived.Laws.OwnMore
import Derived.Below
import Derived.MapKept
import Derived.Calls
import Derived.Laws.Cells
import Derived.Laws.Slices
import Derived.Laws.Strings
import Derived.Maps.AppendAt
import Derived.IntWalk
import Derived.Laws.Small
import Derived.Laws.CopyRow
import Derived.Lib.Strings
set_option linter.all false
namespace Go.Proofs.YtmjfpcajohhbeaaGreatDoor
def b5a:=@Option.bind_eq_some_iff
def b3C:=@Option.some.injEq
def b4A:=@List.map_cons
def b5u:=@List.map_nil
def b3O:=@List.cons.injEq
def b3T:=@and_true
def b6h:=@Go.World.cell?_of_block
def b4X:=@Nat.add_mul
def b3U:=@List.length_append
def b3P:=@List.length_cons
def b5J:=@List.getElem?_append_left
def b4B:=@List.getElem?_eq_some_iff
def b4J:=@Nat.lt_or_ge
def b5g:=@List.getElem?_append_right
def b5W:=@Nat.add_sub_cancel_left
def b3J:=@Bool.and_eq_true
def b5p:=@List.drop_drop
def b5U:=@List.drop_left
def b7e:=@List.take_append
def b4a:=@List.take_of_length_le
def b6E:=@Nat.zero_mul
def b5O:=@List.drop_zero
def b5P:=@List.take_left
def b4I:=@List.take_zero
def b4i:=@List.nil_append
def b5n:=@Nat.zero_add
def b6P:=@List.set_cons_zero
def b4F:=@Go.run_underlying
def b6c:=@Go.MapKept.run_getObj_map
def b7j:=@List.getElem?_cons_zero
def b6u:=@List.pairwise_cons
def b5h:=@List.mem_of_getElem?
def b6X:=@Array.toList_push
def b4m:=@List.mem_singleton
def b3H:=@List.mem_append
def b6y:=@List.ext_getElem?
def b6z:=@List.getElem?_set
def b4n:=@if_pos
def b6o:=@List.getElem_of_mem
def b4Z:=@List.getElem_mem
def b4r:=@Nat.le_refl
def b5v:=@Nat.le_trans
def b3X:=@Nat.lt_of_lt_of_le
def b3Z:=@List.mem_cons
def b5G:=@Iff.rfl
def b4z:=@Array.getD_eq_getD_getElem?
def b6K:=@Array.getElem?_setIfInBounds
def b4D:=@Option.map_eq_some_iff
def b3R:=@if_neg
def b5y:=@if_true
def b3G:=@Nat.eq_of_beq_eq_true
def b4u:=@of_decide_eq_true
def b5S:=@Go.Addr.add_lit
def b4q:=@Go.Sem.run_bind
def b4s:=@Go.Sem.run_pure
def b4g:=@Go.Result.andThen_ok
def b5D:=@Nat.add_zero
def b4L:=@List.eq_nil_of_length_eq_zero
def b4j:=@List.getElem?_eq_getElem
def b6r:=@Option.some.inj
def b4C:=@List.all_eq_true
def b5r:=@List.drop_eq_getElem_cons
def b4w:=@Nat.le_of_ble_eq_true
def b4e:=@List.length_take
def b4V:=@List.length_drop
def b5i:=@List.getElem?_take
def b5w:=@List.getElem?_drop
def b6A:=@Nat.add_assoc
def b3N:=@List.mem_map
def b6p:=@Go.Value.pointer.injEq
def b5E:=@Go.Addr.mk.injEq
def b7k:=@eq_of_heq
def b6x:=@Int.eq_ofNat_of_zero_le
def b3W:=@Int.toNat_natCast
def b3F:=@Prod.mk.injEq
def b7y:=@Go.ByteArray.toList_eq
def b5A:=@Bool.eq_iff_iff
def b6Y:=@Go.eqGuard_at_string
def b4K:=@Array.length_toList
def b4R:=@Array.getElem?_eq_getElem
def b7r:=@Array.ext'
def b3L:=@Bool.false_eq_true
def b6B:=@if_false
def b6J:=@List.take_succ_cons
def b4H:=@List.append_assoc
def b4b:=@List.length_nil
def b6i:=@List.take_length
def b4W:=@List.append_nil
def b6j:=@List.replicate_succ'
def b3Y:=@List.length_map
def b6F:=@Option.map_none
def b6s:=@Option.map_some
def b7o:=@Go.run_sliceBound
def b4O:=@Nat.zero_le
def b6L:=@Go.heap_alloc_new
def b5L:=@Nat.mul_le_mul_right
def b7C:=@List.map_replicate
def b3E:=@decide_eq_true_eq
def b6d:=@List.mapM_cons
def b6M:=@Nat.mul_le_mul
def b4N:=@Array.toArray_toList
def b5z:=@List.getElem?_map
def b5q:=@Go.Value.slice.injEq
def b5F:=@Array.toList_map
def a3H:List Nat:=[0]
inductive D where
 | int (k:IntKind) (n:Int)
 | bool (b:Bool)
 | str (s:List UInt8)
 | slice (n:Nat) (xs:List D)
 | agg (xs:List D)
 | hole
 | ptr
def mvD{α:Type}(n:Nat)(f:α->D):Option (List α)->D
 | none => .hole
 | some l => .slice n (l.map f)
inductive aS where
 | sig
 | expr
 | oExpr
 | equation
 | proofStep
 | claim
 | proof
 | reader
 | l01Reader
 deriving DecidableEq
inductive Ty where
 | int (k:IntKind)
 | bool
 | str
 | slice (t:Ty)
 | st (s:aS)
 | mv (t:Ty)
 | ptr
 deriving DecidableEq
structure aT where
 az:Int
 bo:Int
structure J where
 aq:Int
 aM:Int
 M:List (J)
structure oS where
 aq:Int
 aM:Int
 M:Option (List (J))
structure ar where
 left:J
 right:J
structure ae where
 use:Int
 back:Bool
 path:List (Int)
 az:List (J)
 bf:List (J)
structure ag where
 left:J
 right:J
 bp:Int
 ref:Int
 steps:List (ae)
structure aj where
 sig:aT
 ai:List (ag)
structure mc where
 text:List UInt8
 pos:Int
structure fK where
 text:List UInt8
 pos:Int
 a4Q:Int
 bad:Bool
@[reducible] def aS.den:aS->Type
 | .sig=>aT
 | .expr=>J
 | .oExpr=>oS
 | .equation=>ar
 | .proofStep=>ae
 | .claim=>ag
 | .proof=>aj
 | .reader=>mc
 | .l01Reader=>fK
@[reducible] def Ty.den:Ty->Type
 | .int _=>Int
 | .bool=>Bool
 | .str=>List UInt8
 | .slice t=>List t.den
 | .st s=>s.den
 | .mv t=>Option (List t.den)
 | .ptr=>Unit
structure TV where
 τ:Ty
 x:τ.den
def TV.Z9(τ:Ty)(v:TV):Option τ.den:=if h:v.τ=τ then some (h ▸ v.x) else none
def TV.aW{τ:Ty}{v:TV}{x:τ.den}(h:v.Z9 τ=some x):v=⟨τ,x⟩:=by
 unfold TV.Z9 at h;split at h
 .rename_i e;subst e;cases v;simp at h;subst h;rfl
 .cases h
@[simp] theorem TV.a3l(τ:Ty)(x:τ.den):TV.Z9 τ ⟨τ,x⟩=some x:=by simp[TV.Z9]
def aS.fields:(s:aS)->s.den->List TV
 | .sig,x=>[⟨.int .i64,x.az⟩,⟨.int .i64,x.bo⟩]
 | .expr,x=>[⟨.int .i64,x.aq⟩,⟨.int .i64,x.aM⟩,⟨.slice (.st .expr),x.M⟩]
 | .oExpr,x=>[⟨.int .i64,x.aq⟩,⟨.int .i64,x.aM⟩,⟨.mv (.st .expr),x.M⟩]
 | .equation,x=>[⟨.st .expr,x.left⟩,⟨.st .expr,x.right⟩]
 | .proofStep,x=>[⟨.int .i64,x.use⟩,⟨.bool,x.back⟩,⟨.slice (.int .i64),x.path⟩,⟨.slice (.st .expr),x.az⟩,⟨.slice (.st .expr),x.bf⟩]
 | .claim,x=>[⟨.st .expr,x.left⟩,⟨.st .expr,x.right⟩,⟨.int .i64,x.bp⟩,⟨.int .i64,x.ref⟩,⟨.slice (.st .proofStep),x.steps⟩]
 | .proof,x=>[⟨.st .sig,x.sig⟩,⟨.slice (.st .claim),x.ai⟩]
 | .reader,x=>[⟨.str,x.text⟩,⟨.int .i64,x.pos⟩]
 | .l01Reader,x=>[⟨.str,x.text⟩,⟨.int .i64,x.pos⟩,⟨.int .i64,x.a4Q⟩,⟨.bool,x.bad⟩]
def aS.cells:(s:aS)->s.den->List TV
 | .sig,x=>[⟨.int .i64,x.az⟩,⟨.int .i64,x.bo⟩]
 | .expr,x=>[⟨.int .i64,x.aq⟩,⟨.int .i64,x.aM⟩,⟨.slice (.st .expr),x.M⟩]
 | .oExpr,x=>[⟨.int .i64,x.aq⟩,⟨.int .i64,x.aM⟩,⟨.mv (.st .expr),x.M⟩]
 | .equation,x=>[⟨.int .i64,x.left.aq⟩,⟨.int .i64,x.left.aM⟩,⟨.slice (.st .expr),x.left.M⟩,⟨.int .i64,x.right.aq⟩,⟨.int .i64,x.right.aM⟩,⟨.slice (.st .expr),x.right.M⟩]
 | .proofStep,x=>[⟨.int .i64,x.use⟩,⟨.bool,x.back⟩,⟨.slice (.int .i64),x.path⟩,⟨.slice (.st .expr),x.az⟩,⟨.slice (.st .expr),x.bf⟩]
 | .claim,x=>[⟨.int .i64,x.left.aq⟩,⟨.int .i64,x.left.aM⟩,⟨.slice (.st .expr),x.left.M⟩,⟨.int .i64,x.right.aq⟩,⟨.int .i64,x.right.aM⟩,⟨.slice (.st .expr),x.right.M⟩,⟨.int .i64,x.bp⟩,⟨.int .i64,x.ref⟩,⟨.slice (.st .proofStep),x.steps⟩]
 | .proof,x=>[⟨.int .i64,x.sig.az⟩,⟨.int .i64,x.sig.bo⟩,⟨.slice (.st .claim),x.ai⟩]
 | .reader,x=>[⟨.str,x.text⟩,⟨.int .i64,x.pos⟩]
 | .l01Reader,x=>[⟨.str,x.text⟩,⟨.int .i64,x.pos⟩,⟨.int .i64,x.a4Q⟩,⟨.bool,x.bad⟩]
def aS.size:aS->Nat
 | .sig=>2
 | .expr=>3
 | .oExpr=>3
 | .equation=>6
 | .proofStep=>5
 | .claim=>9
 | .proof=>3
 | .reader=>2
 | .l01Reader=>4
def aS.zT:aS->List Ty
 | .sig=>[.int .i64, .int .i64]
 | .expr=>[.int .i64, .int .i64, .slice (.st .expr)]
 | .oExpr=>[.int .i64, .int .i64, .mv (.st .expr)]
 | .equation=>[.int .i64, .int .i64, .slice (.st .expr), .int .i64, .int .i64, .slice (.st .expr)]
 | .proofStep=>[.int .i64, .bool, .slice (.int .i64), .slice (.st .expr), .slice (.st .expr)]
 | .claim=>[.int .i64, .int .i64, .slice (.st .expr), .int .i64, .int .i64, .slice (.st .expr), .int .i64, .int .i64, .slice (.st .proofStep)]
 | .proof=>[.int .i64, .int .i64, .slice (.st .claim)]
 | .reader=>[.str, .int .i64]
 | .l01Reader=>[.str, .int .i64, .int .i64, .bool]
def aS.fU:aS->List Ty
 | .sig=>[.int .i64, .int .i64]
 | .expr=>[.int .i64, .int .i64, .slice (.st .expr)]
 | .oExpr=>[.int .i64, .int .i64, .mv (.st .expr)]
 | .equation=>[.st .expr, .st .expr]
 | .proofStep=>[.int .i64, .bool, .slice (.int .i64), .slice (.st .expr), .slice (.st .expr)]
 | .claim=>[.st .expr, .st .expr, .int .i64, .int .i64, .slice (.st .proofStep)]
 | .proof=>[.st .sig, .slice (.st .claim)]
 | .reader=>[.str, .int .i64]
 | .l01Reader=>[.str, .int .i64, .int .i64, .bool]
def aS.fR:(s:aS)->List TV->Option s.den
 | .sig,[a0,a1]=>(a0.Z9 (.int .i64)).bind λ b0=>(a1.Z9 (.int .i64)).bind λ b1=>some (aT.mk b0 b1)
 | .expr,[a0,a1,a2]=>(a0.Z9 (.int .i64)).bind λ b0=>(a1.Z9 (.int .i64)).bind λ b1=>(a2.Z9 (.slice (.st .expr))).bind λ b2=>some (J.mk b0 b1 b2)
 | .oExpr,[a0,a1,a2]=>(a0.Z9 (.int .i64)).bind λ b0=>(a1.Z9 (.int .i64)).bind λ b1=>(a2.Z9 (.mv (.st .expr))).bind λ b2=>some (oS.mk b0 b1 b2)
 | .equation,[a0,a1,a2,a3,a4,a5]=>(a0.Z9 (.int .i64)).bind λ b0=>(a1.Z9 (.int .i64)).bind λ b1=>(a2.Z9 (.slice (.st .expr))).bind λ b2=>(a3.Z9 (.int .i64)).bind λ b3=>(a4.Z9 (.int .i64)).bind λ b4=>(a5.Z9 (.slice (.st .expr))).bind λ b5=>some (ar.mk (J.mk b0 b1 b2) (J.mk b3 b4 b5))
 | .proofStep,[a0,a1,a2,a3,a4]=>(a0.Z9 (.int .i64)).bind λ b0=>(a1.Z9 (.bool)).bind λ b1=>(a2.Z9 (.slice (.int .i64))).bind λ b2=>(a3.Z9 (.slice (.st .expr))).bind λ b3=>(a4.Z9 (.slice (.st .expr))).bind λ b4=>some (ae.mk b0 b1 b2 b3 b4)
 | .claim,[a0,a1,a2,a3,a4,a5,a6,a7,a8]=>(a0.Z9 (.int .i64)).bind λ b0=>(a1.Z9 (.int .i64)).bind λ b1=>(a2.Z9 (.slice (.st .expr))).bind λ b2=>(a3.Z9 (.int .i64)).bind λ b3=>(a4.Z9 (.int .i64)).bind λ b4=>(a5.Z9 (.slice (.st .expr))).bind λ b5=>(a6.Z9 (.int .i64)).bind λ b6=>(a7.Z9 (.int .i64)).bind λ b7=>(a8.Z9 (.slice (.st .proofStep))).bind λ b8=>some (ag.mk (J.mk b0 b1 b2) (J.mk b3 b4 b5) b6 b7 b8)
 | .proof,[a0,a1,a2]=>(a0.Z9 (.int .i64)).bind λ b0=>(a1.Z9 (.int .i64)).bind λ b1=>(a2.Z9 (.slice (.st .claim))).bind λ b2=>some (aj.mk (aT.mk b0 b1) b2)
 | .reader,[a0,a1]=>(a0.Z9 (.str)).bind λ b0=>(a1.Z9 (.int .i64)).bind λ b1=>some (mc.mk b0 b1)
 | .l01Reader,[a0,a1,a2,a3]=>(a0.Z9 (.str)).bind λ b0=>(a1.Z9 (.int .i64)).bind λ b1=>(a2.Z9 (.int .i64)).bind λ b2=>(a3.Z9 (.bool)).bind λ b3=>some (fK.mk b0 b1 b2 b3)
 | _,_=>none
def aS.oP:∀ {s:aS} {l:List TV} {x:s.den},s.fR l=some x->s.cells x=l:=by
 intro s l x h;cases s;case sig =>
  match l,h with
  | [a0,a1],h =>
   simp only[aS.fR,b5a,b3C] at h;obtain⟨b0,h0,⟨b1,h1,rfl⟩⟩:=h;have e0:=TV.aW h0;have e1:=TV.aW h1;subst e0 e1;rfl
 case expr =>
  match l,h with
  | [a0,a1,a2],h =>
   simp only[aS.fR,b5a,b3C] at h;obtain⟨b0,h0,⟨b1,h1,⟨b2,h2,rfl⟩⟩⟩:=h;have e0:=TV.aW h0;have e1:=TV.aW h1;have e2:=TV.aW h2;subst e0 e1 e2;rfl
 case oExpr =>
  match l,h with
  | [a0,a1,a2],h =>
   simp only[aS.fR,b5a,b3C] at h;obtain⟨b0,h0,⟨b1,h1,⟨b2,h2,rfl⟩⟩⟩:=h;have e0:=TV.aW h0;have e1:=TV.aW h1;have e2:=TV.aW h2;subst e0 e1 e2;rfl
 case equation =>
  match l,h with
  | [a0,a1,a2,a3,a4,a5],h =>
   simp only[aS.fR,b5a,b3C] at h;obtain⟨b0,h0,⟨b1,h1,⟨b2,h2,⟨b3,h3,⟨b4,h4,⟨b5,h5,rfl⟩⟩⟩⟩⟩⟩:=h;have e0:=TV.aW h0;have e1:=TV.aW h1;have e2:=TV.aW h2;have e3:=TV.aW h3;have e4:=TV.aW h4;have e5:=TV.aW h5;subst e0 e1 e2 e3 e4 e5;rfl
 case proofStep =>
  match l,h with
  | [a0,a1,a2,a3,a4],h =>
   simp only[aS.fR,b5a,b3C] at h;obtain⟨b0,h0,⟨b1,h1,⟨b2,h2,⟨b3,h3,⟨b4,h4,rfl⟩⟩⟩⟩⟩:=h;have e0:=TV.aW h0;have e1:=TV.aW h1;have e2:=TV.aW h2;have e3:=TV.aW h3;have e4:=TV.aW h4;subst e0 e1 e2 e3 e4;rfl
 case claim =>
  match l,h with
  | [a0,a1,a2,a3,a4,a5,a6,a7,a8],h =>
   simp only[aS.fR,b5a,b3C] at h;obtain⟨b0,h0,⟨b1,h1,⟨b2,h2,⟨b3,h3,⟨b4,h4,⟨b5,h5,⟨b6,h6,⟨b7,h7,⟨b8,h8,rfl⟩⟩⟩⟩⟩⟩⟩⟩⟩:=h;have e0:=TV.aW h0;have e1:=TV.aW h1;have e2:=TV.aW h2;have e3:=TV.aW h3;have e4:=TV.aW h4;have e5:=TV.aW h5;have e6:=TV.aW h6;have e7:=TV.aW h7;have e8:=TV.aW h8;subst e0 e1 e2 e3 e4 e5 e6 e7 e8;rfl
 case proof =>
  match l,h with
  | [a0,a1,a2],h =>
   simp only[aS.fR,b5a,b3C] at h;obtain⟨b0,h0,⟨b1,h1,⟨b2,h2,rfl⟩⟩⟩:=h;have e0:=TV.aW h0;have e1:=TV.aW h1;have e2:=TV.aW h2;subst e0 e1 e2;rfl
 case reader =>
  match l,h with
  | [a0,a1],h =>
   simp only[aS.fR,b5a,b3C] at h;obtain⟨b0,h0,⟨b1,h1,rfl⟩⟩:=h;have e0:=TV.aW h0;have e1:=TV.aW h1;subst e0 e1;rfl
 case l01Reader =>
  match l,h with
  | [a0,a1,a2,a3],h =>
   simp only[aS.fR,b5a,b3C] at h;obtain⟨b0,h0,⟨b1,h1,⟨b2,h2,⟨b3,h3,rfl⟩⟩⟩⟩:=h;have e0:=TV.aW h0;have e1:=TV.aW h1;have e2:=TV.aW h2;have e3:=TV.aW h3;subst e0 e1 e2 e3;rfl
def aS.iT(s:aS)(x:s.den):(s.cells x).length=s.size:=by cases s<;>rfl
def aS.sQ(s:aS)(x:s.den):(s.cells x).map TV.τ=s.zT:=by cases s<;>rfl
def aS.Ci(s:aS)(x:s.den):(s.fields x).map TV.τ=s.fU:=by cases s<;>rfl
def Ty.size:Ty->Nat
 | .st s=>s.size
 | _=>1
def TV.cells(v:TV):List TV :=
 match v with
 | ⟨.st s,x⟩=>s.cells x
 | v=>[v]
def aS.LU(s:aS)(x:s.den):s.cells x=(s.fields x).flatMap TV.cells:=by cases s<;>rfl
def aT.aQ(x:aT):D := .agg [.int .i64 x.az, .int .i64 x.bo]
mutual
def J.aQ:J->D
 | ⟨aq,aM,M⟩ => .agg [.int .i64 aq, .int .i64 aM, .slice 3 (J.a8w M)]
def J.a8w:List J->List D
 | []=>[]
 | e::r=>e.aQ::J.a8w r
end
def J.wC:∀ l,J.a8w l=l.map J.aQ
 | []=>rfl
 | _::r=>congrArg _ (J.wC r)
def oS.aQ(x:oS):D := .agg [.int .i64 x.aq, .int .i64 x.aM,mvD 3 (λ y=>J.aQ y) x.M]
def ar.aQ(x:ar):D := .agg [.int .i64 x.left.aq, .int .i64 x.left.aM, .slice 3 (x.left.M.map λ y=>J.aQ y), .int .i64 x.right.aq, .int .i64 x.right.aM, .slice 3 (x.right.M.map λ y=>J.aQ y)]
def ae.aQ(x:ae):D := .agg [.int .i64 x.use, .bool x.back, .slice 1 (x.path.map λ y => .int .i64 y), .slice 3 (x.az.map λ y=>J.aQ y), .slice 3 (x.bf.map λ y=>J.aQ y)]
def ag.aQ(x:ag):D := .agg [.int .i64 x.left.aq, .int .i64 x.left.aM, .slice 3 (x.left.M.map λ y=>J.aQ y), .int .i64 x.right.aq, .int .i64 x.right.aM, .slice 3 (x.right.M.map λ y=>J.aQ y), .int .i64 x.bp, .int .i64 x.ref, .slice 5 (x.steps.map λ y=>ae.aQ y)]
def aj.aQ(x:aj):D := .agg [.int .i64 x.sig.az, .int .i64 x.sig.bo, .slice 9 (x.ai.map λ y=>ag.aQ y)]
def mc.aQ(x:mc):D := .agg [.str x.text, .int .i64 x.pos]
def fK.aQ(x:fK):D := .agg [.str x.text, .int .i64 x.pos, .int .i64 x.a4Q, .bool x.bad]
def aS.aQ:(s:aS)->s.den->D
 | .sig,x=>aT.aQ x
 | .expr,x=>J.aQ x
 | .oExpr,x=>oS.aQ x
 | .equation,x=>ar.aQ x
 | .proofStep,x=>ae.aQ x
 | .claim,x=>ag.aQ x
 | .proof,x=>aj.aQ x
 | .reader,x=>mc.aQ x
 | .l01Reader,x=>fK.aQ x
def Ty.aQ:(t:Ty)->t.den->D
 | .int k,n => .int k n
 | .bool,b => .bool b
 | .str,s => .str s
 | .slice t,xs => .slice t.size (xs.map t.aQ)
 | .st s,x=>s.aQ x
 | .mv t,o=>mvD t.size t.aQ o
 | .ptr,_ => .ptr
def TV.aQ(v:TV):D:=v.τ.aQ v.x
def aS.cA(s:aS)(x:s.den):s.aQ x = .agg ((s.cells x).map TV.aQ):=by
 cases s<;>first
  | rfl
  | (cases x;simp[aS.aQ,J.aQ,aS.cells,TV.aQ,Ty.aQ,Ty.size,aS.size,J.wC];done)
  | (simp[aS.aQ,aS.cells,TV.aQ,Ty.aQ,Ty.size,aS.size,aT.aQ,J.aQ,oS.aQ,ar.aQ,ae.aQ,ag.aQ,aj.aQ,mc.aQ,fK.aQ,J.wC];done)
def aS.zero:(s:aS)->s.den
 | .sig=>(aT.mk 0 0)
 | .expr=>(J.mk 0 0 [])
 | .oExpr=>(oS.mk 0 0 none)
 | .equation=>(ar.mk (J.mk 0 0 []) (J.mk 0 0 []))
 | .proofStep=>(ae.mk 0 false [] [] [])
 | .claim=>(ag.mk (J.mk 0 0 []) (J.mk 0 0 []) 0 0 [])
 | .proof=>(aj.mk (aT.mk 0 0) [])
 | .reader=>(mc.mk [] 0)
 | .l01Reader=>(fK.mk [] 0 0 false)
def Ty.zero:(t:Ty)->t.den
 | .int _=>(0:Int)
 | .bool=>false
 | .str=>([]:List UInt8)
 | .slice _=>[]
 | .st s=>s.zero
 | .mv _=>none
 | .ptr=>()
instance:Inhabited aT:=⟨aS.zero .sig⟩
def aT.eta(x:aT):aT.mk x.az x.bo=x:=by cases x;rfl
instance:Inhabited J:=⟨aS.zero .expr⟩
def J.eta(x:J):J.mk x.aq x.aM x.M=x:=by cases x;rfl
instance:Inhabited oS:=⟨aS.zero .oExpr⟩
def oS.eta(x:oS):oS.mk x.aq x.aM x.M=x:=by cases x;rfl
instance:Inhabited ar:=⟨aS.zero .equation⟩
def ar.eta(x:ar):ar.mk x.left x.right=x:=by cases x;rfl
instance:Inhabited ae:=⟨aS.zero .proofStep⟩
def ae.eta(x:ae):ae.mk x.use x.back x.path x.az x.bf=x:=by cases x;rfl
instance:Inhabited ag:=⟨aS.zero .claim⟩
def ag.eta(x:ag):ag.mk x.left x.right x.bp x.ref x.steps=x:=by cases x;rfl
instance:Inhabited aj:=⟨aS.zero .proof⟩
def aj.eta(x:aj):aj.mk x.sig x.ai=x:=by cases x;rfl
instance:Inhabited mc:=⟨aS.zero .reader⟩
def mc.eta(x:mc):mc.mk x.text x.pos=x:=by cases x;rfl
instance:Inhabited fK:=⟨aS.zero .l01Reader⟩
def fK.eta(x:fK):fK.mk x.text x.pos x.a4Q x.bad=x:=by cases x;rfl
def aJ(x:J):J:=J.mk x.aq x.aM x.M
def aK(x:J):aJ x=x:=by cases x;simp[aJ]
def jU(x:ar):ar:=ar.mk (aJ x.left) (aJ x.right)
def br(x:ar):jU x=x:=by cases x;simp[jU,aK]
def oG(x:ag):ag:=ag.mk (aJ x.left) (aJ x.right) x.bp x.ref x.steps
def bG(x:ag):oG x=x:=by cases x;simp[oG,aK]
def aS.a3C:∀ (s:aS) (fl:List TV),fl.map TV.τ=s.fU->∃ x,s.fields x=fl
 | .sig,fl,h=>by
  match fl,h with
  | [⟨t0,a0⟩,⟨t1,a1⟩],h =>
   simp only[b4A,b5u,aS.fU,b3O,b3T] at h;obtain⟨rfl,rfl⟩:=h;exact⟨⟨a0,a1⟩,rfl⟩
 | .expr,fl,h=>by
  match fl,h with
  | [⟨t0,a0⟩,⟨t1,a1⟩,⟨t2,a2⟩],h =>
   simp only[b4A,b5u,aS.fU,b3O,b3T] at h;obtain⟨rfl,rfl,rfl⟩:=h;exact⟨⟨a0,a1,a2⟩,rfl⟩
 | .oExpr,fl,h=>by
  match fl,h with
  | [⟨t0,a0⟩,⟨t1,a1⟩,⟨t2,a2⟩],h =>
   simp only[b4A,b5u,aS.fU,b3O,b3T] at h;obtain⟨rfl,rfl,rfl⟩:=h;exact⟨⟨a0,a1,a2⟩,rfl⟩
 | .equation,fl,h=>by
  match fl,h with
  | [⟨t0,a0⟩,⟨t1,a1⟩],h =>
   simp only[b4A,b5u,aS.fU,b3O,b3T] at h;obtain⟨rfl,rfl⟩:=h;exact⟨⟨a0,a1⟩,rfl⟩
 | .proofStep,fl,h=>by
  match fl,h with
  | [⟨t0,a0⟩,⟨t1,a1⟩,⟨t2,a2⟩,⟨t3,a3⟩,⟨t4,a4⟩],h =>
   simp only[b4A,b5u,aS.fU,b3O,b3T] at h;obtain⟨rfl,rfl,rfl,rfl,rfl⟩:=h;exact⟨⟨a0,a1,a2,a3,a4⟩,rfl⟩
 | .claim,fl,h=>by
  match fl,h with
  | [⟨t0,a0⟩,⟨t1,a1⟩,⟨t2,a2⟩,⟨t3,a3⟩,⟨t4,a4⟩],h =>
   simp only[b4A,b5u,aS.fU,b3O,b3T] at h;obtain⟨rfl,rfl,rfl,rfl,rfl⟩:=h;exact⟨⟨a0,a1,a2,a3,a4⟩,rfl⟩
 | .proof,fl,h=>by
  match fl,h with
  | [⟨t0,a0⟩,⟨t1,a1⟩],h =>
   simp only[b4A,b5u,aS.fU,b3O,b3T] at h;obtain⟨rfl,rfl⟩:=h;exact⟨⟨a0,a1⟩,rfl⟩
 | .reader,fl,h=>by
  match fl,h with
  | [⟨t0,a0⟩,⟨t1,a1⟩],h =>
   simp only[b4A,b5u,aS.fU,b3O,b3T] at h;obtain⟨rfl,rfl⟩:=h;exact⟨⟨a0,a1⟩,rfl⟩
 | .l01Reader,fl,h=>by
  match fl,h with
  | [⟨t0,a0⟩,⟨t1,a1⟩,⟨t2,a2⟩,⟨t3,a3⟩],h =>
   simp only[b4A,b5u,aS.fU,b3O,b3T] at h;obtain⟨rfl,rfl,rfl,rfl⟩:=h;exact⟨⟨a0,a1,a2,a3⟩,rfl⟩
abbrev zE:J:=J.mk (0:Int) (0:Int) []
def U:True:=trivial
noncomputable section
@[reducible] def FN:List Ty->Ty->Type
 | [],r=>Prop×r.den
 | t::ts,r=>t.den->FN ts r
structure FV where
 ps:List Ty
 r:Ty
 F:FN ps r
def FV.Z9(ps:List Ty)(r:Ty)(v:FV):Option (FN ps r):=if h:v.ps=ps then (if k:v.r=r then some (h ▸ k ▸ v.F) else none) else none
def FV.aW{ps:List Ty}{r:Ty}{v:FV}{F:FN ps r}(h:v.Z9 ps r=some F):v=⟨ps,r,F⟩:=by
 unfold FV.Z9 at h;split at h
 .split at h
  .rename_i e k;obtain⟨ps',r',F'⟩:=v;simp only at e k;subst e k;simp at h;subst h;rfl
  .cases h
 .cases h
@[simp] theorem FV.a3l(ps:List Ty)(r:Ty)(F:FN ps r):FV.Z9 ps r ⟨ps,r,F⟩=some F:=by simp[FV.Z9]
structure MV where
 κ:Ty
 ε:Ty
 f:κ.den->Option ε.den
 n:Nat
def MV.Z9(κ ε:Ty)(m:MV):Option ((κ.den->Option ε.den)×Nat):=if h:m.κ=κ then (if k:m.ε=ε then some (h ▸ k ▸ (m.f,m.n)) else none) else none
def MV.aW{κ ε:Ty}{m:MV}{F:(κ.den->Option ε.den)×Nat}(h:m.Z9 κ ε=some F):m=⟨κ,ε,F.1,F.2⟩:=by
 unfold MV.Z9 at h;split at h
 .split at h
  .rename_i e k;obtain⟨κ',ε',f',n'⟩:=m;simp only at e k;subst e k;simp at h;subst h;rfl
  .cases h
 .cases h
@[simp] theorem MV.a3l(κ ε:Ty)(f:κ.den->Option ε.den)(n:Nat):MV.Z9 κ ε ⟨κ,ε,f,n⟩=some (f,n):=by simp[MV.Z9]
def Mg{α β:Type}(f:α->Option β)(k:α)(v:β):α->Option β:=λ x => @ite _ (x=k) (Classical.propDecidable _) (some v) (f x)
def T9{β:Type}(o:Option β)(n:Nat):Nat:=bif o.isSome then n else n+1
inductive AV where
 | any
 | eh
 | aI (v:TV)
 | nil
 | dc (v:TV)
 | ptr (id off:Nat)
 | row (id:Nat)
 | eB (id i off:Nat)
 | agg (cs:List AV)
 | iR (vs:List AV)
 | fn (f:FuncId)
 | aw (id:Nat)
 | sub (id i off sz:Nat)
 | eU (id i off sz:Nat)
 | di (f:FuncId) (cs:List AV)
 | iC (v:FV)
 | mp (id:Nat)
inductive aD where
 | box (cs:List AV)
 | row (e:TypeId) (τ:Ty) (xs:List τ.den)
 | aw (τ:Ty) (xs:List τ.den)
 | map (m:MV)
structure ah where
 aB:List AV
 aN:List (Nat×aD)
inductive Arg where
 | val (v:TV)
 | ref (v:TV)
 | fn (f:FuncId)
 | di (v:FV)
 | own (v:TV)
 | box (k:Nat)
inductive CK where
 | d (τ:Ty)
 | o (τ:Ty)
 | p (k:Nat)
structure SK where
 ps:List (Option Nat)
 sh:List (List CK)
def af{α:Type}:List (Nat×α)->Nat->Option α
 | [],_=>none
 | (k,v)::r,n=>match Nat.beq k n with
  | true=>some v
  | false=>af r n
abbrev Vc:=Option Prop
def Vc.ok:Vc->Prop
 | .none=>True
 | .some p=>p
def Vc.and(v:Vc)(K:Prop):Prop:=match v with
 | .none=>K
 | .some p=>p/\K
def Vc.kc{v:Vc}{K:Prop}(h:v.and K):v.ok/\K:=by
 cases v with
 | none=>exact⟨U,h⟩
 | some p=>exact h
structure DX where
 τ:Ty
 g:τ.den->Int->Vc×τ.den×Int
structure vA where
 ps:List Ty
 r:Ty
 gl:List (Bool×Ty)
def Arg.Oy:Arg->Bool
 | .ref _ | .di _ | .box _=>false
 | _=>true
inductive a1A where
 | box (cells:List TV)
 | row (e:TypeId) (τ:Ty) (xs:List τ.den)
 | res (l:List (Bool×TV))
structure Env where
 ty:List (Nat×Ty×Nat×Nat)
 pty:List (Nat×Ty)
 RQ:Nat->List Arg->Option (Vc×List TV)
 wr:List Nat:=[]
 own:List Nat:=[]
 QF:Nat->List Arg->Option (Vc×List TV):=λ _ _=>none
 mark:Nat->Option DX:=λ _=>none
 di:Nat->Option vA:=λ _=>none
 ro:List Nat:=[]
 tk:Nat->List Bool:=λ _=>[]
 sk:Nat->Option SK:=λ _=>none
 a0p:Nat->List Arg->List (List TV)->Option (Vc×List TV×List (List TV)):=λ _ _ _=>none
 mty:List (Nat×Ty×Ty):=[]
 XU:Nat->List Arg->Option (Vc×a1A):=λ _ _=>none
def ah.af(s:ah)(id:Nat):Option aD:=YtmjfpcajohhbeaaGreatDoor.af s.aN id
def Wu(k:IntKind)(n:Int):Bool :=
 match n with
 | .ofNat m=>match k with
  | .i64=>Nat.ble m 9223372036854775807
  | .u64=>Nat.ble m 18446744073709551615
  | .u8=>Nat.ble m 255
  | _=>Nat.ble m 127
 | .negSucc m=>match k with
  | .i64=>Nat.ble m 9223372036854775807
  | _=>false
def Pp:Value->AV
 | .int k n=>match Wu k n with
  | true => .aI ⟨.int k,n⟩
  | false => .any
 | .bool b => .aI ⟨.bool,b⟩
 | .string s=>match Nat.ble s.data.size 1000000 with
  | true => .aI ⟨.str,s.data.toList⟩
  | false => .any
 | .slice none 0 0 => .nil
 | _ => .any
def a1S:Value->AV
 | .agg cs => .agg (cs.toList.map Pp)
 | .tuple cs=>match Nat.beq cs.size 0 with
  | true => .eh
  | false => .any
 | v=>Pp v
def ah.eval(s:ah):Operand->AV
 | .tmp t=>s.aB.getD t .any
 | .const v=>a1S v
 | .func f => .fn f
 | .global _ => .any
def jR(lk:Nat->Option aD)(τ:Ty):AV->Option τ.den
 | .aI v=>v.Z9 τ
 | .nil=>match τ with
  | .slice _=>some []
  | _=>none
 | .row id=>match lk id with
  | some (.row _ bj xs)=>TV.Z9 τ ⟨.slice bj,xs⟩
  | _=>none
 | .aw id=>match lk id with
  | some (.aw bj xs)=>TV.Z9 τ ⟨.slice bj,xs⟩
  | _=>none
 | _=>none
def QE(lk:Nat->Option aD)(id:Nat):Option aD:=match lk id with
 | some (.aw _ _)=>none
 | o=>o
def Wa(lk:Nat->Option aD):List AV->List Ty->Option (List TV)
 | [],[]=>some []
 | c::cs,t::ts=>match jR lk t c with
  | some x=>match Wa lk cs ts with
   | some r=>some (⟨t,x⟩::r)
   | none=>none
  | none=>none
 | _,_=>none
def Hr(lk:Nat->Option aD)(τ:Ty):AV->Option τ.den
 | .agg cs=>match τ with
  | .st s=>match Wa lk cs s.zT with
   | some l=>s.fR l
   | none=>none
  | _=>none
 | v=>jR lk τ v
def AV.cell:AV->Bool
 | .any | .eh | .agg _ | .iR _ | .sub .. | .eU .. | .di .. | .iC .. => false
 | .aI v=>match v.τ with
  | .st _=>false
  | _=>true
 | _=>true
def cellsOf(τ:Ty)(v:AV):Option (List AV) :=
 match τ with
 | .st s=>match v with
  | .aI x=>match x.Z9 (.st s) with
   | some y=>some ((s.cells y).map .aI)
   | none=>none
  | .agg cs=>match Nat.beq cs.length s.size&&cs.all AV.cell with
   | true=>some cs
   | false=>none
  | _=>none
 | _=>match v.cell with
  | true=>some [v]
  | false=>none
def Kf(cs:List AV)(off:Nat)(τ:Ty):Option AV :=
 match τ with
 | .st s=>match Nat.ble (off+s.size) cs.length with
  | true=>some (.agg ((cs.drop off).take s.size))
  | false=>none
 | _=>cs[off]?
def putCells(cs:List AV)(off:Nat)(new:List AV):Option (List AV) :=
 match Nat.ble (off+new.length) cs.length with
 | true=>some (cs.take off++(new++cs.drop (off+new.length)))
 | false=>none
def TV.part(v:TV)(off:Nat)(τ:Ty):Option TV :=
 match Nat.beq off 0&&decide (v.τ=τ) with
 | true=>some v
 | false=>match v.cells[off]? with
  | some u=>match decide (u.τ=τ) with
   | true=>some u
   | false=>none
  | none=>none
def uQ(lk:Nat->Option aD)(τ:Ty):AV->Option AV
 | .dc v=>match decide (v.τ=τ) with
  | true=>some (.aI v)
  | false=>none
 | .ptr id off=>match lk id with
  | some (.box cs)=>Kf cs off τ
  | _=>none
 | .eB id i off=>match lk id with
  | some (.row _ bj xs)=>match TV.part ⟨bj,xs.getD i bj.zero⟩ off τ with
   | some u=>some (.aI u)
   | none=>none
  | _=>none
 | _=>none
def deref(lk:Nat->Option aD)(τ:Ty)(v:AV):Option τ.den :=
 match uQ lk τ v with
 | some u=>Hr lk τ u
 | none=>none
def aS.fA(s:aS)(i:Nat):Nat:=((s.fU.take i).map Ty.size).sum
def zeroCell(τ:Ty):AV :=
 match τ with
 | .slice _ => .nil
 | τ => .aI ⟨τ,τ.zero⟩
def zeroCells(τ:Ty):List AV :=
 match τ with
 | .st s=>s.zT.map zeroCell
 | τ=>[zeroCell τ]
def FL(lk:Nat->Option aD):List (Bool×Ty)->List AV->Option (List Arg)
 | [],[]=>some []
 | (true,τ)::ks,v::vs=>match deref lk τ v with
  | some x=>match FL lk ks vs with
   | some r=>some (.ref ⟨τ,x⟩::r)
   | none=>none
  | none=>none
 | (false,τ)::ks,v::vs=>match Hr lk τ v with
  | some x=>match FL lk ks vs with
   | some r=>some (.val ⟨τ,x⟩::r)
   | none=>none
  | none=>none
 | _,_=>none
def Wn(E:Env)(f:FuncId)(gl:List Arg):(ps:List Ty)->(r:Ty)->List Arg->FN ps r
 | [],r,acc=>match E.RQ f (acc++gl) with
  | some (pre,[v])=>match v.Z9 r with
   | some y=>(pre.ok,y)
   | none=>(False,r.zero)
  | _=>(False,r.zero)
 | t::ts,r,acc=>λ x=>Wn E f gl ts r (acc++[.val ⟨t,x⟩])
def wI:(ps:List Ty)->(r:Ty)->FN ps r->List Arg->Option (Prop×r.den)
 | [],_,F,[]=>some F
 | t::ts,r,F, .val a::zs=>match a.Z9 t with
  | some x=>wI ts r (F x) zs
  | none=>none
 | _,_,_,_=>none
def Ps(E:Env)(lk:Nat->Option aD):AV->Option FV
 | .di f cs=>match E.di f with
  | some k=>match FL lk k.gl cs with
   | some Z9=>some ⟨k.ps,k.r,Wn E f Z9 k.ps k.r []⟩
   | none=>none
  | none=>none
 | .iC v=>some v
 | .fn f=>match E.di f with
  | some k=>match k.gl with
   | []=>some ⟨k.ps,k.r,Wn E f [] k.ps k.r []⟩
   | _=>none
  | none=>none
 | _=>none
def V8(E:Env)(lk:Nat->Option aD)(T:TypeId)(v:AV):Option Arg :=
 match af E.ty T with
 | some (τ,_)=>match Hr lk τ v with
  | some x=>some (.val ⟨τ,x⟩)
  | none=>none
 | none=>match af E.pty T with
  | some τ=>match deref lk τ v with
   | some x=>some (.ref ⟨τ,x⟩)
   | none=>none
  | none=>match Ps E lk v with
   | some q=>some (.di q)
   | none=>match v with
    | .fn f=>some (.fn f)
    | _=>none
def nf(E:Env)(lk:Nat->Option aD):List TypeId->List AV->Option (List Arg)
 | [],[]=>some []
 | T::Ts,v::vs=>match V8 E lk T v with
  | some x=>match nf E lk Ts vs with
   | some r=>some (x::r)
   | none=>none
  | none=>none
 | _,_=>none
def GH:List TV->AV
 | [v] => .aI v
 | vs => .iR (vs.map .aI)
def O(n:Int):Prop := -9223372036854775808<=n/\n<=9223372036854775807
def bQ(k:IntKind)(n:Int):Prop :=
 match k with
 | .i64=>O n
 | k=>k.min<=n/\n<=k.max
def ak(n:Int)(len:Nat):Prop:=0<=n/\n<(len:Int)
def cw(l h:Int)(len:Nat):Prop:=0<=l/\l<=h/\h<=(len:Int)
def bI(n m:Int)(b:Nat):Prop:=0<=n/\n<=m/\m * ((b:Int)+1)<=140737488355328
def aY(n b:Nat):Prop:=n * (b+1)<=140737488355328
def arith(op:BinOp)(k:IntKind)(a b:Int):Option (Vc×Int) :=
 match op with
 | .add=>match k with
  | .u64=>some (.none,IntKind.u64.wrap (a+b))
  | k=>some (.some (bQ k (a+b)),a+b)
 | .sub=>some (.some (bQ k (a - b)),a - b)
 | .mul=>match k with
  | .u64=>some (.none,IntKind.u64.wrap (a * b))
  | k=>some (.some (bQ k (a * b)),a * b)
 | .quo=>some (.some (b≠0/\bQ k (a.tdiv b)),a.tdiv b)
 | .rem=>some (.some (b≠0/\bQ k (a.tmod b)),a.tmod b)
 | .shl=>some (.some (0<=b/\b<k.bits/\bQ k (a * 2 ^ b.toNat)),a * 2 ^ b.toNat)
 | .shr=>some (.some (0<=b/\b<k.bits/\bQ k (a.fdiv (2 ^ b.toNat))),a.fdiv (2 ^ b.toNat))
 | .and=>some (.some (0<=a/\0<=b/\bQ k a/\bQ k b),((a.toNat &&& b.toNat:Nat):Int))
 | _=>none
def cmp(op:BinOp)(a b:Int):Option Bool :=
 match op with
 | .eql=>some (decide (a=b))
 | .neq=>some (!decide (a=b))
 | .lss=>some (decide (a<b))
 | .leq=>some (decide (a<=b))
 | .gtr=>some (decide (b<a))
 | .geq=>some (decide (b<=a))
 | _=>none
def a0D(wr:Bool)(op:BinOp)(k:IntKind)(a b:Int):Option (Vc×Int) :=
 match wr with
 | true=>match op with
  | .add=>some (.none,k.wrap (a+b))
  | .sub=>some (.none,k.wrap (a - b))
  | .mul=>some (.none,k.wrap (a * b))
  | op=>arith op k a b
 | false=>arith op k a b
def a3s(tb wr:Bool)(op:BinOp)(u v:AV):Option (Vc×AV) :=
 match u,v with
 | .aI ⟨.int k,a⟩, .aI ⟨.int k',b⟩=>match a0D wr op k a b with
  | some (p,r)=>match op with
   | .shl | .shr=>some (p, .aI ⟨.int k,r⟩)
   | _=>match decide (k=k') with
    | true=>some (p, .aI ⟨.int k,r⟩)
    | false=>none
  | none=>match decide (k=k') with
   | true=>match cmp op a b with
    | some c=>some (.none, .aI ⟨.bool,c⟩)
    | none=>none
   | false=>none
 | .aI ⟨.bool,a⟩, .aI ⟨.bool,b⟩=>match tb with
  | true=>match op with
   | .eql=>some (.none, .aI ⟨.bool,a == b⟩)
   | .neq=>some (.none, .aI ⟨.bool,!(a == b)⟩)
   | _=>none
  | false=>none
 | .aI ⟨.str,a⟩, .aI ⟨.str,b⟩=>match op with
  | .eql=>some (.none, .aI ⟨.bool,decide (a=b)⟩)
  | .neq=>some (.none, .aI ⟨.bool,!decide (a=b)⟩)
  | .add=>some (.some (a.length+b.length<=140737488355328), .aI ⟨.str,a++b⟩)
  | _=>none
 | _,_=>none
def partsOf(E:Env)(s:aS)(cs:List AV):List (Nat×AV)->Option (List AV)
 | []=>some cs
 | (i,v)::r=>match s.fU[i]? with
  | some τ=>match cellsOf τ v with
   | some new=>match putCells cs (s.fA i) new with
    | some dA=>partsOf E s dA r
    | none=>none
   | none=>none
  | none=>none
def vM(τ:Ty):Nat->List (Nat×AV)->Option (List τ.den)
 | _,[]=>some []
 | n,(
    i,v)::r=>match Nat.beq i n with
  | true=>match Hr (λ _=>none) τ v with
   | some x=>match vM τ (n+1) r with
    | some xs=>some (x::xs)
    | none=>none
   | none=>none
  | false=>none
def TV.flat(v:TV):Bool:=v.cells.all λ u=>match u.τ with
 | .slice _=>false
 | .mv _=>false
 | _=>true
def qQ(d:Int):Option AV->Option Int
 | none=>some d
 | some (.aI ⟨.int _,n⟩)=>some n
 | _=>none
def uU(lk:Nat->Option aD)(id:Nat):Option aD:=match lk id with
 | some (.box cs)=>some (.box cs)
 | _=>none
def J9(E:Env)(lk:Nat->Option aD)(f:FuncId)(Ts:List TypeId)(vs:List AV):Option (Vc×AV×Option aD) :=
 match nf E (uU lk) Ts vs with
 | some Z9=>match E.RQ f Z9 with
  | some (pre,res)=>some (pre,GH res,none)
  | none=>none
 | none=>match nf E lk Ts vs with
  | some Z9=>match E.RQ f Z9 with
   | some (pre,res)=>match res.all TV.flat with
    | true=>some (pre,GH res,none)
    | false=>none
   | none=>none
  | none=>none
def Eu(E:Env)(lk:Nat->Option aD)(g:AV)(Ts:List TypeId)(vs:List AV):Option (Vc×AV×Option aD) :=
 match (match nf E (uU lk) Ts vs with
  | some Z9=>match Ps E (uU lk) g with
   | some q=>match wI q.ps q.r q.F Z9 with
    | some (pre,y)=>some (some pre,GH [⟨q.r,y⟩],none)
    | none=>none
   | none=>none
  | none=>none) with
 | some r=>some r
 | none=>match nf E lk Ts vs with
  | some Z9=>match Ps E lk g with
   | some q=>match wI q.ps q.r q.F Z9 with
    | some (pre,y)=>match TV.flat ⟨q.r,y⟩ with
     | true=>some (some pre,GH [⟨q.r,y⟩],none)
     | false=>none
    | none=>none
   | none=>none
  | none=>none
def AV.a7c:AV->Bool
 | .eh | .iR _ | .di .. | .iC .. | .sub .. | .eU .. => false
 | _=>true
def a1j(E:Env)(op:BinOp)(T:TypeId)(u v:AV):Option (Vc×AV) :=
 match af E.ty T,u,v with
 | some (.slice _,_), .aI ⟨.slice _,xs⟩, .nil=>match op with
  | .eql=>some (.some (1<=xs.length), .aI ⟨.bool,false⟩)
  | .neq=>some (.some (1<=xs.length), .aI ⟨.bool,true⟩)
  | _=>none
 | _,_,_=>none
def On(E:Env)(lk:Nat->Option aD)(ev:Operand->AV)(o:Oper):Option (Vc×AV×Option aD) :=
 match o.op with
 | .move x=>some (.none,ev x,none)
 | .assign x=>some (.none,ev x,none)
 | .pick c a b=>match ev c with
  | .aI ⟨.bool,true⟩=>some (.none,ev a,none)
  | .aI ⟨.bool,false⟩=>some (.none,ev b,none)
  | _=>none
 | .alloc T=>match o.dst,af E.ty T with
  | some d,some (τ,_)=>some (.none, .ptr d 0,some (.box (zeroCells τ)))
  | _,_=>none
 | .box T x=>match o.dst,af E.ty T with
  | some d,some (τ,_)=>match E.ro.contains d with
   | true=>match Hr (λ _=>none) τ (ev x) with
    | some y=>some (.none, .dc ⟨τ,y⟩,none)
    | none=>none
   | false=>match cellsOf τ (ev x) with
    | some cs=>some (.none, .ptr d 0,some (.box cs))
    | none=>none
  | _,_=>none
 | .build T parts=>match af E.ty T with
  | some (.st n,_)=>match partsOf E n (zeroCells (.st n)) (parts.toList.map λ p=>(p.1,ev p.2)) with
   | some cs=>some (.none, .agg cs,none)
   | none=>none
  | _=>none
 | .buildSlice T len parts=>match o.dst,af E.ty T with
  | some d,some (.slice τ,_,e)=>match Nat.beq parts.size len&&Nat.ble len 1000 with
   | true=>match vM τ 0 (parts.toList.map λ p=>(p.1,ev p.2)) with
    | some xs=>match E.ro.contains d with
     | true=>some (.none, .aI ⟨.slice τ,xs⟩,none)
     | false=>some (.none, .row d,some (.row e τ xs))
    | none=>none
   | false=>none
  | _,_=>none
 | .load T a=>match af E.ty T with
  | some (τ,_)=>match uQ lk τ (ev a) with
   | some v=>some (.none,v,none)
   | none=>none
  | none=>none
 | .nilCheck x=>match ev x with
  | .dc v=>some (.none, .dc v,none)
  | .ptr id off=>some (.none, .ptr id off,none)
  | .eB id i off=>some (.none, .eB id i off,none)
  | _=>none
 | .fieldAddr T x i=>match af E.ty T with
  | some (.st n,_)=>match ev x with
   | .dc v=>match v.Z9 (.st n) with
    | some y=>match (n.fields y)[i]? with
     | some f=>some (.none, .dc f,none)
     | none=>none
    | none=>none
   | .ptr id off=>match Nat.blt i n.fU.length with
    | true=>some (.none, .ptr id (off+n.fA i),none)
    | false=>none
   | .eB id k off=>match Nat.blt i n.fU.length with
    | true=>some (.none, .eB id k (off+n.fA i),none)
    | false=>none
   | _=>none
  | _=>none
 | .field T x i=>match af E.ty T with
  | some (.st n,_)=>match ev x with
   | .aI v=>match v.Z9 (.st n) with
    | some y=>match (n.fields y)[i]? with
     | some f=>some (.none, .aI f,none)
     | none=>none
    | none=>none
   | .agg cs=>match n.fU[i]? with
    | some τ=>match Kf cs (n.fA i) τ with
     | some v=>some (.none,v,none)
     | none=>none
    | none=>none
   | _=>none
  | _=>none
 | .indexAddr T x ix=>match af E.ty T with
  | some (
      .slice τ,_)=>match ev ix with
   | .aI ⟨.int _,n⟩=>match ev x with
    | .aI v=>match v.Z9 (.slice τ) with
     | some xs=>some (.some (ak n xs.length), .dc ⟨τ,xs.getD n.toNat τ.zero⟩,none)
     | none=>none
    | .row id=>match lk id with
     | some (.row _ bj xs)=>match decide (bj=τ) with
      | true=>some (.some (ak n xs.length), .eB id n.toNat 0,none)
      | false=>none
     | _=>none
    | _=>none
   | _=>none
  | _=>none
 | .index T x ix=>match af E.ty T with
  | some (.str,_)=>match ev ix with
   | .aI ⟨.int _,n⟩=>match ev x with
    | .aI ⟨.str,xs⟩=>some (.some (ak n xs.length), .aI ⟨.int .u8,((xs.getD n.toNat 0).toNat:Int)⟩,none)
    | _=>none
   | _=>none
  | _=>none
 | .binOp op T x y _=>match a1j E op T (ev x) (ev y) with
  | some (p,v)=>some (p,v,none)
  | none=>match a3s (match af E.ty T with
   | some (.bool,_)=>true
   | _=>false) (match o.dst with
   | some d=>E.wr.contains d
   | none=>false) op (ev x) (ev y) with
   | some (p,v)=>some (p,v,none)
   | none=>none
 | .unOp op _ x=>match op,ev x with
  | .not, .aI ⟨.bool,b⟩=>some (.none, .aI ⟨.bool,!b⟩,none)
  | .neg, .aI ⟨.int k,n⟩=>some (.some (bQ k (-n)), .aI ⟨.int k,-n⟩,none)
  | _,_=>none
 | .convert src dst x=>match af E.ty src,af E.ty dst with
  | some (.int _,_),some (.int k,_)=>match ev x with
   | .aI ⟨.int _,n⟩=>some (.some (bQ k n), .aI ⟨.int k,n⟩,none)
   | _=>none
  | _,_=>none
 | .slice T x lo hi mx=>match af E.ty T,mx with
  | some (.slice τ,_),none=>match ev x with
   | .aI v=>match v.Z9 (.slice τ) with
    | some xs=>match qQ 0 (lo.map ev),qQ (xs.length:Int) (hi.map ev) with
     | some l,some h=>some (.some (cw l h xs.length), .aI ⟨.slice τ,(xs.take h.toNat).drop l.toNat⟩,none)
     | _,_=>none
    | none=>none
   | _=>none
  | some (.str,_),none=>match ev x with
   | .aI ⟨.str,xs⟩=>match qQ 0 (lo.map ev),qQ (xs.length:Int) (hi.map ev) with
    | some l,some h=>some (.some (cw l h xs.length), .aI ⟨.str,(xs.take h.toNat).drop l.toNat⟩,none)
    | _,_=>none
   | _=>none
  | _,_=>none
 | .extract t i=>match ev t with
  | .iR vs=>match vs[i]? with
   | some v=>some (.none,v,none)
   | none=>none
  | _=>none
 | .makeSlice T l c=>match o.dst,af E.ty T with
  | some d,some (.slice τ,b,e)=>match ev l,ev c with
   | .aI ⟨.int .i64,n⟩, .aI ⟨.int .i64,m⟩=>some (.some (bI n m b), .row d,some (.row e τ (List.replicate n.toNat τ.zero)))
   | _,_=>none
  | _,_=>none
 | .call c=>match c.callee with
  | .builtin .len=>match c.argTypes.toList,c.args.toList.map ev with
   | [T],[v]=>match af E.ty T with
    | some (.slice _,_)=>match v with
     | .nil=>some (.none, .aI ⟨.int .i64,(0:Int)⟩,none)
     | .aI ⟨.slice _,xs⟩=>some (.none, .aI ⟨.int .i64,(xs.length:Int)⟩,none)
     | .row id=>match lk id with
      | some (.row _ _ xs)=>some (.none, .aI ⟨.int .i64,(xs.length:Int)⟩,none)
      | _=>none
     | _=>none
    | some (.str,_)=>match v with
     | .aI ⟨.str,xs⟩=>some (.none, .aI ⟨.int .i64,(xs.length:Int)⟩,none)
     | _=>none
    | none=>match v,af E.mty T with
     | .mp _,some _=>none
     | _,_=>none
    | _=>none
   | _,_=>none
  | .builtin .append=>match o.dst,c.argTypes.toList with
   | some d,[T,T']=>match Nat.beq T T',af E.ty T with
    | true,some (.slice τ,b,e)=>match c.args.toList.map ev with
     | [.nil,y]=>match jR (QE lk) (.slice τ) y with
      | some ys=>some (.some (aY ys.length b), .row d,some (.row e τ ys))
      | none=>none
     | _=>none
    | _,_=>none
   | _,_=>none
  | .builtin .max=>match c.args.toList.map ev with
   | [.aI ⟨.int k,m⟩, .aI ⟨.int k',n⟩]=>match decide (k'=k) with
    | true=>some (.none, .aI ⟨.int k,(max m n:Int)⟩,none)
    | false=>none
   | _=>none
  | .value (.func f)=>J9 E lk f c.argTypes.toList (c.args.toList.map ev)
  | .value (.tmp t)=>match ev (.tmp t) with
   | .fn f=>J9 E lk f c.argTypes.toList (c.args.toList.map ev)
   | .di f cs=>Eu E lk (.di f cs) c.argTypes.toList (c.args.toList.map ev)
   | .iC v=>Eu E lk (.iC v) c.argTypes.toList (c.args.toList.map ev)
   | _=>none
  | _=>none
 | .makeMap _ none=>none
 | .lookup _ _ _ _=>none
 | .makeFunc fn first captured=>match fn,first.toList,(captured.toList.map ev).all AV.a7c with
  | .func f,[],true=>match captured.toList.map ev with
   | []=>some (.none, .fn f,none)
   | cs=>some (.none, .di f cs,none)
  | _,_,_=>none
 | _=>none
mutual
def AV.refs(id:Nat):AV->Bool
 | .ptr i _=>Nat.beq i id
 | .row i=>Nat.beq i id
 | .eB i _ _=>Nat.beq i id
 | .aw i=>Nat.beq i id
 | .sub i _ _ _=>Nat.beq i id
 | .eU i _ _ _=>Nat.beq i id
 | .mp i=>Nat.beq i id
 | .agg cs=>AV.gf id cs
 | .iR cs=>AV.gf id cs
 | .di _ cs=>AV.gf id cs
 | _=>false
def AV.gf(id:Nat):List AV->Bool
 | []=>false
 | v::r=>match AV.refs id v with
  | true=>true
  | false=>AV.gf id r
end
def AV.kill(id:Nat)(v:AV):AV:=match v.refs id with
 | true => .any
 | false=>v
def aD.kill(id:Nat):aD->aD
 | .box cs => .box (cs.map (AV.kill id))
 | o=>o
def ah.cp(s:ah)(id:Nat):ah :=
 { aB:=s.aB.map (AV.kill id),aN:=s.aN.map λ p=>(p.1,p.2.kill id) }
def bS(id:Nat):List (Nat×aD)->List (Nat×aD)
 | []=>[]
 | (k,o)::r=>match Nat.beq k id with
  | true=>bS id r
  | false=>(k,o)::bS id r
def ah.put(s:ah)(d:Option Nat)(v:AV):ah :=
 match d with
 | some d=>{ s with aB:=s.aB.set d v }
 | none=>s
def ah.lay(s:ah)(d:Option Nat)(v:AV)(o:Option aD):ah :=
 match o,d with
 | some o,some d =>
  let s':=s.cp d;{ aB:=s'.aB.set d v,aN:=(d,o.kill d)::bS d s'.aN }
 | _,d=>s.put d v
mutual
def AV.rows:AV->List Nat
 | .row i=>[i]
 | .agg cs=>AV.a4s cs
 | _=>[]
def AV.a4s:List AV->List Nat
 | []=>[]
 | v::r=>AV.rows v++AV.a4s r
end
def Zu(s:ah)(v:AV):List Nat :=
 match v with
 | .ptr id _=>match s.af id with
  | some (.box cs)=>AV.a4s cs
  | _=>[]
 | v=>v.rows
def a6R(s:ah)(v:AV):List Nat :=
 match v with
 | .di _ cs=>cs.flatMap (Zu s)
 | v=>Zu s v
def lp(E:Env)(s:ah)(o:Oper):List Nat :=
 match (match o.dst with
  | some d=>E.own.contains d
  | none=>false) with
 | true=>[]
 | false=>match o.op with
 | .buildSlice _ _ parts=>parts.toList.flatMap λ p=>(s.eval p.2).rows
 | .slice _ x _ _ _=>(s.eval x).rows
 | .store _ a x=>match s.eval a with
  | .eB _ _ _=>(s.eval x).rows
  | _=>[]
 | .call c=>match c.callee with
  | .value _=>match E.RQ (match c.callee with
    | .value (.func f)=>f
    | .value (.tmp t)=>match s.eval (.tmp t) with
     | .fn f=>f
     | _=>0
    | _=>0) (match nf E s.af c.argTypes.toList (c.args.toList.map s.eval) with
     | some Z9=>Z9
     | none=>[]) with
   | some (_,res)=>match res.all TV.flat with
    | true=>[]
    | false=>c.args.toList.flatMap λ x=>a6R s (s.eval x)
   | none=>[]
  | _=>[]
 | _=>[]
mutual
def AV.KW(id:Nat)(u:AV):AV->AV
 | .row i=>match Nat.beq i id with
  | true=>u
  | false => .row i
 | .eB i k off=>match Nat.beq i id with
  | true => .any
  | false => .eB i k off
 | .agg cs => .agg (AV.WQ id u cs)
 | .iR cs => .iR (AV.WQ id u cs)
 | .di f cs => .di f (AV.WQ id u cs)
 | v=>v
def AV.WQ(id:Nat)(u:AV):List AV->List AV
 | []=>[]
 | v::r=>AV.KW id u v::AV.WQ id u r
end
def aD.KW(id:Nat)(u:AV):aD->aD
 | .box cs => .box (AV.WQ id u cs)
 | o=>o
mutual
def AV.HE(id:Nat)(u:AV):AV->AV
 | .aw i=>match Nat.beq i id with
  | true=>u
  | false => .aw i
 | .sub i k off z=>match Nat.beq i id with
  | true => .any
  | false => .sub i k off z
 | .eU i k off z=>match Nat.beq i id with
  | true => .any
  | false => .eU i k off z
 | .agg cs => .agg (AV.WO id u cs)
 | .iR cs => .iR (AV.WO id u cs)
 | .di f cs => .di f (AV.WO id u cs)
 | v=>v
def AV.WO(id:Nat)(u:AV):List AV->List AV
 | []=>[]
 | v::r=>AV.HE id u v::AV.WO id u r
end
def aD.HE(id:Nat)(u:AV):aD->aD
 | .box cs => .box (AV.WO id u cs)
 | o=>o
def ah.freeze(s:ah)(id:Nat):ah :=
 match s.af id with
 | some (.row _ τ xs) =>
  { aB:=AV.WQ id (.aI ⟨.slice τ,xs⟩) s.aB,aN:=(bS id s.aN).map λ p=>(p.1,p.2.KW id (.aI ⟨.slice τ,xs⟩)) }
 | some (.aw τ xs) =>
  { aB:=AV.WO id (.aI ⟨.slice τ,xs⟩) s.aB,aN:=(bS id s.aN).map λ p=>(p.1,p.2.HE id (.aI ⟨.slice τ,xs⟩)) }
 | _=>s
def VJ(_:Env)(_:ah)(_:Option Nat)(_:TypeId)(_ _ _:Operand):Option (Vc×ah):=none
def eop(E:Env)(s:ah)(o:Oper):Option (Vc×ah) :=
 match o.op with
 | .mapUpdate T m k x=>VJ E s o.dst T m k x
 | .insert T m k x=>VJ E s o.dst T m k x
 | .store T a x=>match af E.ty T with
  | some (
      τ,_)=>match s.eval a with
   | .ptr id off=>match s.af id with
    | some (.box cs)=>match cellsOf τ (s.eval x) with
     | some new=>match putCells cs off new with
      | some dA=>some (.none,{ s with aN:=(id, .box dA)::bS id s.aN }.put o.dst .any)
      | none=>none
     | none=>none
    | _=>none
   | .eB id i 0=>match s.af id with
    | some (.row e' bj xs)=>match decide (bj=τ),Hr (λ _=>none) bj (s.eval x) with
     | true,some x=>some (.none,{ s with aN:=(id, .row e' bj (xs.set i x))::bS id s.aN }.put o.dst .any)
     | _,_=>none
    | _=>none
   | _=>none
  | none=>none
 | .call c=>match c.callee with
  | .builtin .append=>match o.dst,c.argTypes.toList with
   | some d,[T,T']=>match Nat.beq T T',af E.ty T with
    | true,some (.slice τ,b,e)=>match c.args.toList.map s.eval with
     | [.row id,y]=>match s.af id,jR (QE s.af) (.slice τ) y with
      | some (.row e' bj xs),some ys=>match Nat.beq e' e,TV.Z9 (.slice τ) ⟨.slice bj,xs⟩ with
       | true,some cV =>
        let s':=s.cp id;some (.some (aY (cV.length+ys.length) b),{ aB:=s'.aB.set d (.row id),aN:=(id, .row e τ (cV++ys))::bS id s'.aN })
       | _,_=>none
      | _,_=>none
     | _=>none
    | _,_=>none
   | _,_=>none
  | _=>none
 | _=>none
def nodupB:List Nat->Bool
 | []=>true
 | a::r=>match r.contains a with
  | true=>false
  | false=>nodupB r
def cx:Option aD->Bool
 | some (.aw ..)=>true
 | _=>false
def iO(id:Nat):TV->AV
 | ⟨.slice _,_⟩ => .aw id
 | ⟨.mv _,_⟩ => .any
 | u => .aI u
def fJ(id:Nat):TV->List (Nat×aD)
 | ⟨.slice τ,xs⟩=>[(id, .aw τ xs)]
 | _=>[]
def cd:Nat->List TV->List AV
 | _,[]=>[]
 | id,u::r=>iO id u::cd (id+1) r
def ca:Nat->List TV->List (Nat×aD)
 | _,[]=>[]
 | id,u::r=>fJ id u++ca (id+1) r
def fg(id:Nat):TV->AV
 | ⟨.st s,y⟩ => .agg (cd id (s.cells y))
 | v=>iO id v
def Q2:Nat->List TV->List AV
 | _,[]=>[]
 | id,v::r=>fg id v::Q2 (id+20) r
def bz:Nat->List TV->List (Nat×aD)
 | _,[]=>[]
 | id,v::r=>ca id v.cells++bz (id+20) r
def kP(id:Nat):List TV->AV
 | [v]=>fg id v
 | vs => .iR (Q2 id vs)
def Ty.agg:Ty->Bool
 | .st _=>true
 | _=>false
def Ty.C3:Ty->Bool
 | .int _ | .bool | .str | .ptr=>true
 | _=>false
def Ty.key:Ty->Bool
 | .int _ | .bool | .str=>true
 | _=>false
def Ty.plain:Ty->Bool
 | .st s=>s.zT.all Ty.C3
 | .slice _=>false
 | .mv _=>false
 | _=>true
def dY(lk:Nat->Option aD)(τ:Ty):AV->Option (τ.den×List Nat)
 | .aI v=>match τ.C3,v.Z9 τ with
  | true,some y=>some (y,[])
  | _,_=>none
 | .nil=>match τ with
  | .slice _=>some ([],[])
  | _=>none
 | .aw id=>match lk id with
  | some (.aw bj xs)=>match TV.Z9 τ ⟨.slice bj,xs⟩ with
   | some y=>some (y,[id])
   | none=>none
  | _=>none
 | .row id=>match lk id with
  | some (.row _ bj xs)=>match bj.plain,TV.Z9 τ ⟨.slice bj,xs⟩ with
   | true,some y=>some (y,[id])
   | _,_=>none
  | _=>none
 | _=>none
def uW(lk:Nat->Option aD):List AV->List Ty->Option (List TV×List Nat)
 | [],[]=>some ([],[])
 | c::cs,t::ts=>match dY lk t c with
  | some (x,i)=>match uW lk cs ts with
   | some (r,j)=>some (⟨t,x⟩::r,i++j)
   | none=>none
  | none=>none
 | _,_=>none
def sA(lk:Nat->Option aD)(τ:Ty):AV->Option (τ.den×List Nat)
 | .agg cs=>match τ with
  | .st s=>match uW lk cs s.zT with
   | some (l,ids)=>match s.fR l with
    | some y=>some (y,ids)
    | none=>none
   | none=>none
  | _=>none
 | v=>dY lk τ v
mutual
def AV.Ri:AV->Bool
 | .sub .. => true
 | .agg cs=>AV.qb cs
 | .iR cs=>AV.qb cs
 | .di _ cs=>AV.qb cs
 | _=>false
def AV.qb:List AV->Bool
 | []=>false
 | v::r=>match AV.Ri v with
  | true=>true
  | false=>AV.qb r
end
def AV.df(v:AV):AV:=match v.Ri with
 | true => .any
 | false=>v
def aD.df:aD->aD
 | .box cs => .box (cs.map AV.df)
 | o=>o
def ah.bZ(s:ah):ah:={ aB:=s.aB.map AV.df,aN:=s.aN.map λ p=>(p.1,p.2.df) }
def ah.dE(s:ah)(id:Nat)(τ:Ty)(xs:List τ.den):ah :=
 { s with aN:=(id, .aw τ xs)::bS id s.aN }
def ah.gone(s:ah)(id:Nat):ah :=
 let s':=s.cp id
 { s' with aN:=bS id s'.aN }
def ah.gM(s:ah):List AV->List TV->ah
 | .aw id::cs,⟨.slice τ,xs⟩::us=>(s.dE id τ xs).gM cs us
 | _::cs,_::us=>s.gM cs us
 | _,_=>s
def lf(τ:Ty)(x:τ.den)(off:Nat)(u:TV):Option τ.den :=
 match τ with
 | .st s=>match (s.cells x)[off]? with
  | some v=>match decide (v.τ=u.τ) with
   | true=>s.fR ((s.cells x).set off u)
   | false=>none
  | none=>none
 | τ=>match Nat.beq off 0 with
  | true=>u.Z9 τ
  | false=>none
def Ty.full:Ty->Ty
 | .mv t => .slice t
 | t=>t
def Ty.b0g:Ty->Ty->Bool
 | .st p, .st q=>decide (p.zT.map Ty.full=q.zT)
 | _,_=>false
def Ty.VL:Ty->Bool
 | .mv _=>true
 | t=>t.C3
def a3G:TV->TV
 | ⟨.mv t,o⟩=>⟨.slice t,Option.getD (α:=List t.den) o []⟩
 | u=>u
def a0L:TV->TV
 | ⟨.mv t,_⟩=>⟨.mv t,(none:Option (List t.den))⟩
 | u=>u
def D2:List TV->Prop
 | []=>True
 | ⟨.mv t,o⟩::r=>Option.isSome (α:=List t.den) o=true/\D2 r
 | _::r=>D2 r
def a5f(s:ah)(d:Nat)(m:DX)(vs:List AV):Option (Vc×ah):=match vs with
 | [.aw id, .aI ⟨.int .i64,n⟩]=>match s.af id with
  | some (.aw τ xs)=>match TV.Z9 m.τ ⟨.slice τ,xs⟩ with
   | some x=>match TV.Z9 (.slice τ) ⟨m.τ,(m.g x n).2.1⟩ with
    | some cV=>some ((m.g x n).1,(s.bZ.dE id τ cV).put (some d) (.aI ⟨.int .i64,(m.g x n).2.2⟩))
    | none=>none
   | none=>none
  | _=>none
 | [.sub id i off sz, .aI ⟨.int .i64,n⟩]=>match s.af id with
  | some (.aw τ xs)=>match TV.part ⟨τ,xs.getD i τ.zero⟩ off m.τ with
   | some u=>match u.Z9 m.τ,Nat.beq τ.size sz&&(!m.τ.agg&&Nat.blt off τ.size) with
    | some x,true=>match lf τ (xs.getD i τ.zero) off ⟨m.τ,(m.g x n).2.1⟩ with
     | some y=>some ((m.g x n).1,(s.bZ.dE id τ (xs.set i y)).put (some d) (.aI ⟨.int .i64,(m.g x n).2.2⟩))
     | none=>none
    | _,_=>none
   | none=>none
  | _=>none
 | [.agg cs, .aI ⟨.int .i64,n⟩]=>match sA s.af m.τ (.agg cs) with
  | some (x,ids)=>match nodupB ids&&ids.all λ id=>cx (s.af id) with
   | true=>some ((m.g x n).1,(s.bZ.gM cs (TV.cells ⟨m.τ,(m.g x n).2.1⟩)).put (some d) (.aI ⟨.int .i64,(m.g x n).2.2⟩))
   | false=>none
  | none=>none
 | _=>none
def oop(E:Env)(s:ah)(o:Oper):Option (Vc×ah) :=
 match o.op with
 | .indexAddr T x ix=>match af E.ty T with
  | some (.slice τ,_)=>match s.eval ix,s.eval x with
   | .aI ⟨.int _,n⟩, .aw id=>match s.af id with
    | some (.aw bj xs)=>match decide (bj=τ)||bj.b0g τ with
     | true=>some (.some (ak n xs.length),s.put o.dst (.eU id n.toNat 0 τ.size))
     | false=>none
    | _=>none
   | _,_=>none
  | _=>none
 | .fieldAddr T x i=>match af E.ty T with
  | some (.st n,_)=>match s.eval x with
   | .eU id k off sz=>match Nat.blt i n.fU.length with
    | true=>some (.none,s.put o.dst (.eU id k (off+n.fA i) sz))
    | false=>none
   | _=>none
  | _=>none
 | .load T ad=>match af E.ty T with
  | some (
      τ,_)=>match s.eval ad with
   | .eU id i off sz=>match s.af id with
    | some (.aw bj xs)=>match TV.part ⟨bj,xs.getD i bj.zero⟩ off τ,Nat.beq bj.size sz&&(!τ.agg&&Nat.blt off bj.size) with
     | some u,true=>match τ.C3 with
      | true=>some (.none,s.put o.dst (.aI u))
      | false=>some (.none,s.put o.dst (.sub id i off sz))
     | _,_=>none
    | _=>none
   | _=>none
  | none=>none
 | .store T ad x=>match af E.ty T with
  | some (
      τ,_)=>match s.eval ad with
   | .eU id i off sz=>match s.af id with
    | some (
        .aw bj xs)=>match Nat.beq bj.size sz&&Nat.blt off bj.size with
     | true=>match τ.C3 with
      | true=>match dY (λ _=>none) τ (s.eval x) with
       | some (u,_)=>match TV.part ⟨bj,xs.getD i bj.zero⟩ off τ,lf bj (xs.getD i bj.zero) off ⟨τ,u⟩ with
        | some _,some y=>some (.none,(s.bZ.dE id bj (xs.set i y)).put o.dst .any)
        | _,_=>none
       | none=>none
      | false=>match Nat.beq off 0,sA s.af τ (s.eval x) with
       | true,some (y,ids)=>match nodupB (id::ids),TV.Z9 bj ⟨τ,y⟩ with
        | true,some y'=>some (.none,((ids.foldl ah.gone s).bZ.dE id bj (xs.set i y')).put o.dst .any)
        | _,_=>none
       | _,_=>none
     | false=>none
    | _=>none
   | _=>none
  | none=>none
 | .makeSlice T l cc=>match o.dst,af E.ty T with
  | some d,some (.slice τ,b,_)=>match E.own.contains d&&Nat.blt d 50 with
   | true=>match s.eval l,s.eval cc with
    | .aI ⟨.int .i64,n⟩, .aI ⟨.int .i64,m⟩=>some (.some (bI n m b),{ aB:=(s.gone d).aB.set d (.aw d),aN:=(d, .aw τ (List.replicate n.toNat τ.zero))::(s.gone d).aN })
    | _,_=>none
   | false=>none
  | _,_=>none
 | .call c=>match c.callee with
  | .builtin .len=>match c.argTypes.toList,c.args.toList.map s.eval with
   | [T],[.aw id]=>match af E.ty T,s.af id with
    | some (.slice _,_),some (.aw _ xs)=>some (.none,s.put o.dst (.aI ⟨.int .i64,(xs.length:Int)⟩))
    | _,_=>none
   | _,_=>none
  | .value (
       .func f)=>match o.dst with
   | some d=>match E.own.contains d with
    | true=>match E.mark f with
     | some m=>a5f s d m (c.args.toList.map s.eval)
     | none=>match nf E s.af c.argTypes.toList (c.args.toList.map s.eval) with
      | some Z9=>match E.QF f Z9 with
       | some (pre,res)=>match ((bz (100 * (d+1)) res).all λ p=>(s.af p.1).isNone)&&nodupB ((bz (100 * (d+1)) res).map (·.1)) with
        | true=>some (pre,{ aB:=s.aB.set d (kP (100 * (d+1)) res),aN:=bz (100 * (d+1)) res++s.aN })
        | false=>none
       | none=>none
      | none=>none
    | false=>none
   | none=>none
  | _=>none
 | _=>none
def bU(d:Nat):Nat:=100 * (d+1)
def J0(lk:Nat->Option aD)(τ:Ty):Nat->List (Nat×AV)->Option (List τ.den×List Nat)
 | _,[]=>some ([],[])
 | n,(
    i,v)::r=>match Nat.beq i n with
  | true=>match sA lk τ v with
   | some (x,ids)=>match J0 lk τ (n+1) r with
    | some (xs,js)=>some (x::xs,ids++js)
    | none=>none
   | none=>none
  | false=>none
def ah.vB(s:ah)(d:Nat)(τ:Ty)(xs:List τ.den):ah :=
 { aB:=s.aB.set d (.aw (bU d)),aN:=(bU d, .aw τ xs)::s.aN }
def gO(E:Env)(lk:Nat->Option aD):List Bool->List TypeId->List AV->Option (List (Option TV)×List Nat)
 | [],[],[]=>some ([],[])
 | true::fl,T::Ts,v::vs=>match af E.ty T with
  | some (τ,_)=>match sA lk τ v with
   | some (x,i)=>match gO E lk fl Ts vs with
    | some (r,j)=>some (some ⟨τ,x⟩::r,i++j)
    | none=>none
   | none=>none
  | none=>none
 | false::fl,_::Ts,_::vs=>match gO E lk fl Ts vs with
  | some (r,j)=>some (none::r,j)
  | none=>none
 | _,_,_=>none
def fF(E:Env)(lk:Nat->Option aD):List (Option TV)->List TypeId->List AV->Option (List Arg)
 | [],[],[]=>some []
 | some x::r,_::Ts,_::vs=>match fF E lk r Ts vs with
  | some Z9=>some (.own x::Z9)
  | none=>none
 | none::r,T::Ts,v::vs=>match V8 E lk T v with
  | some x=>match x.Oy,fF E lk r Ts vs with
   | true,some Z9=>some (x::Z9)
   | _,_=>none
  | none=>none
 | _,_,_=>none
def bop(E:Env)(s:ah)(o:Oper):Option (Vc×ah) :=
 match o.dst with
 | some d=>match E.own.contains d with
  | true=>match o.op with
   | .buildSlice T len parts=>match af E.ty T with
    | some (.slice τ,_)=>match Nat.beq parts.size len&&Nat.ble len 1000 with
     | true=>match J0 s.af τ 0 (parts.toList.map λ p=>(p.1,s.eval p.2)) with
      | some (xs,ids)=>match nodupB ids,(ids.foldl ah.gone s).af (bU d) with
       | true,none=>some (.none,(ids.foldl ah.gone s).vB d τ xs)
       | _,_=>none
      | none=>none
     | false=>none
    | _=>none
   | .load T ad=>match af E.ty T,s.eval ad with
    | some (.st q,_), .eU id i 0 sz=>match s.af id with
     | some (.aw (.st p) xs)=>match Nat.beq p.size sz&&p.zT.all Ty.VL,p.fR ((p.cells (xs.getD i (Ty.zero (.st p)))).map a0L),q.fR ((p.cells (xs.getD i (Ty.zero (.st p)))).map a3G) with
      | true,some y,some z=>match ((ca (bU d) (q.cells z)).all λ e=>(s.af e.1).isNone)&&nodupB ((ca (bU d) (q.cells z)).map (·.1)) with
       | true=>some (.some (D2 (p.cells (xs.getD i (Ty.zero (.st p))))),{ aB:=s.bZ.aB.set d (fg (bU d) ⟨.st q,z⟩),aN:=ca (bU d) (q.cells z)++(s.bZ.dE id (.st p) (xs.set i y)).aN })
       | false=>none
      | _,_,_=>none
     | _=>none
    | _,_=>none
   | .call c=>match c.callee with
    | .builtin .append=>match c.argTypes.toList with
     | [T,T']=>match Nat.beq T T',af E.ty T with
      | true,some (.slice τ,b,_)=>match c.args.toList.map s.eval with
       | [x,y]=>match dY s.af (.slice τ) x,dY s.af (.slice τ) y with
        | some (xs,i),some (ys,j)=>match nodupB (i++j),((i++j).foldl ah.gone s).af (bU d) with
         | true,none=>some (.some (aY (xs.length+ys.length) b),((i++j).foldl ah.gone s).vB d τ (xs++ys))
         | _,_=>none
        | _,_=>none
       | _=>none
      | _,_=>none
     | _=>none
    | .value (
         .func f)=>match E.tk f with
     | []=>none
     | fl=>match gO E s.af fl c.argTypes.toList (c.args.toList.map s.eval) with
      | some (own,ids)=>match nodupB ids,fF E (ids.foldl ah.gone s).af own c.argTypes.toList (c.args.toList.map (ids.foldl ah.gone s).eval) with
       | true,some Z9=>match E.QF f Z9 with
        | some (pre,res)=>match ((bz (bU d) res).all λ p=>((ids.foldl ah.gone s).af p.1).isNone)&&nodupB ((bz (bU d) res).map (·.1)) with
         | true=>some (pre,{ aB:=(ids.foldl ah.gone s).aB.set d (kP (bU d) res),aN:=bz (bU d) res++(ids.foldl ah.gone s).aN })
         | false=>none
        | none=>none
       | _,_=>none
      | none=>none
    | _=>none
   | _=>none
  | false=>none
 | none=>none
def jq:List (Option Nat)->List AV->List (Nat×Nat)->Option (List (Nat×Nat))
 | [],[],m=>some m
 | some k::fl,v::vs,m=>match v with
  | .ptr id 0=>match af m k with
   | some i=>match Nat.beq i id with
    | true=>jq fl vs m
    | false=>none
   | none=>jq fl vs ((k,id)::m)
  | _=>none
 | none::fl,_::vs,m=>jq fl vs m
 | _,_,_=>none
def de(lk:Nat->Option aD):List CK->List AV->List (Nat×Nat)->Option (List TV×List Nat×List (Nat×Nat))
 | [],[],m=>some ([],[],m)
 | .d τ::ks,v::vs,m=>match jR (λ _=>none) τ v,τ.agg with
  | some x,false=>match de lk ks vs m with
   | some (ds,ids,m)=>some (⟨τ,x⟩::ds,ids,m)
   | none=>none
  | _,_=>none
 | .o τ::ks,v::vs,m=>match dY lk τ v,τ.agg with
  | some (x,i),false=>match de lk ks vs m with
   | some (ds,ids,m)=>some (⟨τ,x⟩::ds,i++ids,m)
   | none=>none
  | _,_=>none
 | .p j::ks,v::vs,m=>match v with
  | .ptr id 0=>match af m j with
   | some i=>match Nat.beq i id with
    | true=>de lk ks vs m
    | false=>none
   | none=>de lk ks vs ((j,id)::m)
  | _=>none
 | _,_,_=>none
def je(lk:Nat->Option aD):List (List CK)->Nat->List (Nat×Nat)->Option (List (List TV)×List Nat×List (Nat×Nat))
 | [],_,m=>some ([],[],m)
 | ks::sh,k,m=>match af m k with
  | some id=>match lk id with
   | some (.box cs)=>match de lk ks cs m with
    | some (ds,i,m)=>match je lk sh (k+1) m with
     | some (bT,ids,m)=>some (ds::bT,i++ids,m)
     | none=>none
    | none=>none
   | _=>none
  | none=>none
def DN(lk:Nat->Option aD)(ids:List Nat)(id:Nat):Option aD:=match ids.contains id with
 | true=>none
 | false=>match lk id with
  | some (.box cs)=>some (.box cs)
  | _=>none
def Arg.b1a:Arg->Bool
 | .di _=>false
 | _=>true
def uF(E:Env)(lk:Nat->Option aD):List (Option Nat)->List TypeId->List AV->Option (List Arg)
 | [],[],[]=>some []
 | some k::fl,_::Ts,_::vs=>match uF E lk fl Ts vs with
  | some r=>some (.box k::r)
  | none=>none
 | none::fl,T::Ts,v::vs=>match V8 E lk T v with
  | some x=>match x.b1a,uF E lk fl Ts vs with
   | true,some r=>some (x::r)
   | _,_=>none
  | none=>none
 | _,_,_=>none
def cn(m:List (Nat×Nat)):List CK->List AV->List TV->Nat->Option (List AV×List (Nat×aD)×Nat)
 | [],[],[],n=>some ([],[],n)
 | .d τ::ks,_::cs,v::ds,n=>match decide (v.τ=τ) with
  | true=>match cn m ks cs ds n with
   | some (r,os,n)=>some (.aI v::r,os,n)
   | none=>none
  | false=>none
 | .o τ::ks,_::cs,v::ds,n=>match decide (v.τ=τ) with
  | true=>match cn m ks cs ds (n+1) with
   | some (r,os,n')=>some (iO n v::r,fJ n v++os,n')
   | none=>none
  | false=>none
 | .p j::ks,c::cs,ds,n=>match c with
  | .ptr id 0=>match af m j with
   | some i=>match Nat.beq i id,cn m ks cs ds n with
    | true,some (r,os,n)=>some (.ptr id 0::r,os,n)
    | _,_=>none
   | none=>none
  | _=>none
 | _,_,_,_=>none
def uA(lk:Nat->Option aD)(m:List (Nat×Nat)):List (List CK)->Nat->List (List TV)->Nat->Option (List (Nat×aD)×List (Nat×aD))
 | [],_,[],_=>some ([],[])
 | ks::sh,k,ds::bT,n=>match af m k with
  | some id=>match lk id with
   | some (.box cs)=>match cn m ks cs ds n with
    | some (r,os,n)=>match uA lk m sh (k+1) bT n with
     | some (bs,ts)=>some ((id, .box r)::bs,os++ts)
     | none=>none
    | none=>none
   | _=>none
  | none=>none
 | _,_,_,_=>none
def gJ:List Nat->List (Nat×aD)->List (Nat×aD)
 | [],os=>os
 | id::r,os=>gJ r (bS id os)
def sop(E:Env)(s:ah)(o:Oper):Option (Vc×ah) :=
 match o.dst with
 | some d=>match o.op with
  | .call c=>match c.callee with
   | .value (
        .func f)=>match E.sk f with
    | some sk=>match jq sk.ps (c.args.toList.map s.eval) [] with
     | some m0=>match je s.af sk.sh 0 m0 with
      | some (
          bT,ids,m)=>match nodupB ids&&(nodupB (m.map (·.1))&&(nodupB (m.map (·.2))&&Nat.beq m.length sk.sh.length)) with
       | true=>match uF E (DN (ids.foldl ah.gone s).af (m.map (·.2))) sk.ps c.argTypes.toList (c.args.toList.map (ids.foldl ah.gone s).eval) with
        | some Z9=>match E.a0p f Z9 bT with
         | some (pre,res,eP)=>match uA (ids.foldl ah.gone s).af m sk.sh 0 eP (bU d+60) with
          | some (bs,ts)=>match ((bz (bU d) res++ts).all λ p=>((ids.foldl ah.gone s).af p.1).isNone)&&nodupB ((bz (bU d) res++ts).map (·.1)) with
           | true=>some (pre,{ aB:=(ids.foldl ah.gone s).aB.set d (kP (bU d) res),aN:=bs++(bz (bU d) res++ts)++gJ (m.map (·.2)) (ids.foldl ah.gone s).aN })
           | false=>none
          | none=>none
         | none=>none
        | none=>none
       | false=>none
      | none=>none
     | none=>none
    | none=>none
   | _=>none
  | _=>none
 | none=>none
def known(v:AV)(K:Prop):Prop :=
 match v with
 | .aI ⟨.int .i64,n⟩=>O n->K
 | .aI ⟨.slice _,xs⟩=>xs.length<=140737488355328->K
 | .aI ⟨.str,xs⟩=>xs.length<=140737488355328->K
 | _=>K
def YB:Op->Bool
 | .load .. | .field .. | .index .. | .extract .. => true
 | .call c=>match c.callee with
  | .builtin .append=>false
  | _=>true
 | _=>false
def wK:Option Nat->Bool
 | none=>true
 | some d=>Nat.blt d 400000
def AV.stays:AV->Bool
 | .aI v=>match v.τ with
  | .ptr=>false
  | _=>true
 | .dc _=>true
 | _=>false
def b2M:Bool×TV->AV
 | (true,v) => .dc v
 | (false,v) => .aI v
def nop(E:Env)(s:ah)(o:Oper):Option (Vc×AV×Option aD):=match o.op with
 | .call c=>match c.callee with
  | .value (.func f)=>match o.dst with
   | some d=>match nf E (uU s.af) c.argTypes.toList (c.args.toList.map s.eval) with
    | some Z9=>match E.XU f Z9 with
     | some (pre, .box cells)=>some (pre, .ptr d 0,some (.box (cells.map .aI)))
     | some (pre, .row e τ xs)=>some (pre, .row d,some (.row e τ xs))
     | some (pre, .res l)=>match (c.args.toList.map s.eval).all AV.stays with
      | true=>some (pre, .iR (l.map b2M),none)
      | false=>none
     | none=>none
    | none=>none
   | none=>none
  | _=>none
 | _=>none
def lO(E:Env)(o:Oper)(K:ah->Prop)(s:ah):Prop :=
 match wK o.dst with
 | false=>False
 | true =>
 let s:=(lp E s o).foldl ah.freeze s;match sop E s o with
 | some (vc,s')=>vc.and (K s')
 | none=>match bop E s o with
 | some (vc,s')=>vc.and (K s')
 | none=>match eop E s o with
 | some (vc,s')=>vc.and (K s')
 | none=>match oop E s o with
 | some (vc,s')=>vc.and (K s')
 | none=>match nop E s o with
 | some (vc,v,ob)=>vc.and (K (s.lay o.dst v ob))
 | none=>match On E s.af s.eval o with
  | some (vc,v,ob)=>vc.and (match YB o.op with
   | true=>known v (K (s.lay o.dst v ob))
   | false=>K (s.lay o.dst v ob))
  | none=>False
def Ax(ops:Array Oper)(g:Nat):Option Nat:=(ops[g]?).bind (·.dst)
def fv(
      E:Env) (ops:Array Oper):List Oper->List (Nat×Bool)->(ah->Prop)->ah->Prop
 | [],_,Q,s=>Q s
 | o::r,kn,Q,s=>match o.guard with
  | none=>lO E o (fv E ops r kn Q) s
  | some (
      g,want)=>match Ax ops g with
   | none=>False
   | some t=>match af kn t with
    | some b=>match s.eval (.tmp t) with
     | .aI ⟨.bool,b'⟩=>match b' == b,b == want with
      | true,true=>lO E o (fv E ops r kn Q) s
      | true,false=>fv E ops r kn Q (s.put o.dst .eh)
      | false,_=>False
     | .eh=>fv E ops r kn Q (s.put o.dst .eh)
     | _=>False
    | none=>match s.eval (.tmp t) with
     | .aI ⟨.bool,b⟩ =>
      (b=want->lO E o (fv E ops r ((t,want)::kn) Q) (s.put (some t) (.aI ⟨.bool,want⟩))) /\
      (b = !want->fv E ops r ((t,!want)::kn) Q ((s.put (some t) (.aI ⟨.bool,!want⟩)).put o.dst .eh))
     | .eh=>fv E ops r kn Q (s.put o.dst .eh)
     | _=>False
def zm(acc:List Nat)(s:Nat)(e:Edge):Nat :=
 match Region.binds .any e with
 | true=>s ||| (1 <<< e.on ||| acc.getD e.on 0)
 | false=>s
def bV:List Oper->List Nat->List Nat
 | [],acc=>acc
 | o::r,acc=>bV r (acc++[o.after.toList.foldl (zm acc) 0])
def oR:List Nat->Nat->Nat->Nat
 | [],_,m=>m
 | b::r,i,m=>match Nat.beq (b+1) (2 ^ i) with
  | true=>oR r (i+1) m
  | false=>oR r (i+1) (i+1)
def cD(ops:List Oper)(k:Nat):Option Nat:=(ops[k]?).bind (·.dst)
def hidden(ops:List Oper)(m bits t:Nat):Bool:=(List.range m).any λ k=>match cD ops k with
 | some d=>match Nat.beq d t with
  | true => !Nat.testBit bits k
  | false=>false
 | none=>false
def YO(ops:List Oper)(m bits:Nat)(s:ah):Operand->AV
 | .tmp t=>match hidden ops m bits t with
  | true => .any
  | false=>s.eval (.tmp t)
 | x=>s.eval x
def U7(ops:List Oper)(m bits:Nat)(s:ah)(id:Nat):Option aD:=match hidden ops m bits id with
 | true=>none
 | false=>s.af id
def zS:Op->Bool
 | .alloc _ | .box .. | .buildSlice .. | .makeSlice .. | .makeMap .. => true
 | .call c=>match c.callee with
  | .builtin .append=>true
  | _=>false
 | _=>false
def ah.fresh(s:ah)(o:Oper):ah :=
 match zS o.op,o.dst with
 | true,some d=>let s':=s.cp d
  { s' with aN:=bS d s'.aN }
 | _,_=>s
def ah.jC(s:ah)(d:Option Nat)(v:AV)(o:Option aD):ah :=
 match d with
 | some d=>{ aB:=s.aB.set d v,aN:=match o with
  | some o=>(d,o)::s.aN
  | none=>s.aN }
 | none=>s
def Ra(E:Env)(ops:List Oper)(m bits:Nat)(o:Oper)(K:ah->Prop)(s:ah):Prop :=
 match lp E s o with
 | []=>match On E (U7 ops m bits s) (YO ops m bits s) o with
  | some (vc,v,ob)=>vc.and (K (s.jC o.dst v ob))
  | none=>False
 | _=>False
def nt(
      E:Env) (ops:List Oper) (m:Nat) (cm:List Nat):Nat->List Oper->List (Nat×Bool)->(List (Nat×Bool)->ah->Prop)->ah->Prop
 | _,[],kn,Q,s=>Q kn s
 | i,o::r,kn,Q,s=>match o.guard with
  | none=>Ra E ops m (cm.getD i 0) o (nt E ops m cm (i+1) r kn Q) s
  | some (
      g,want)=>match cD ops g,Nat.testBit (cm.getD i 0) g with
   | some t,true=>match af kn t with
    | some b=>match s.eval (.tmp t) with
     | .aI ⟨.bool,b'⟩=>match b' == b,b == want with
      | true,true=>Ra E ops m (cm.getD i 0) o (nt E ops m cm (i+1) r kn Q) s
      | true,false=>nt E ops m cm (i+1) r kn Q (s.put o.dst .eh)
      | false,_=>False
     | .eh=>nt E ops m cm (i+1) r kn Q (s.put o.dst .eh)
     | _=>False
    | none=>match s.eval (.tmp t) with
     | .aI ⟨.bool,b⟩ =>
      (b=want->Ra E ops m (cm.getD i 0) o (nt E ops m cm (i+1) r ((t,want)::kn) Q) (s.put (some t) (.aI ⟨.bool,want⟩))) /\
      (b = !want->nt E ops m cm (i+1) r ((t,!want)::kn) Q ((s.put (some t) (.aI ⟨.bool,!want⟩)).put o.dst .eh))
     | .eh=>nt E ops m cm (i+1) r kn Q (s.put o.dst .eh)
     | _=>False
   | _,_=>False
def distinct:List (Option Nat)->Bool
 | []=>true
 | none::_=>false
 | some d::r=>match r.any λ x=>match x with
   | some e=>Nat.beq d e
   | none=>false with
  | true=>false
  | false=>distinct r
def backward(ops:List Oper):Bool:=(List.range ops.length).all λ i=>match ops[i]? with
 | some o=>o.after.toList.all λ e=>match Region.binds .any e with
  | true=>Nat.blt e.on i
  | false=>true
 | none=>true
def zp(ops:List Oper)(s:ah)(K:Prop):Prop :=
 match ops with
 | []=>K
 | o::r=>match YB o.op,o.dst with
  | true,some d=>known (s.aB.getD d .any) (zp r s K)
  | _,_=>zp r s K
def Xj(cm:List Nat)(p:Nat):Bool:=(cm.drop p).all λ b=>Nat.beq (b % 2 ^ p) (2 ^ p - 1)
def a0J(cm:List Nat):List Nat->List Nat
 | []=>[]
 | p::r=>match Xj cm p with
  | true=>p::a0J cm r
  | false=>a0J cm r
def zV:List (Option Nat)->Bool
 | []=>true
 | none::r=>zV r
 | some d::r=>match r.any λ x=>match x with
   | some e=>Nat.beq d e
   | none=>false with
  | true=>false
  | false=>zV r
def IT(l:List Oper)(lo hi:Nat):Bool :=
 ((
  (l.take hi).drop lo).all λ o=>wK o.dst)&&zV (((l.take hi).drop lo).map (·.dst))&&(l.take lo).all λ o=>match o.dst with
  | none=>true
  | some d => !(((l.take hi).drop lo).any λ p=>match p.dst with
   | some e=>Nat.beq d e
   | none=>false)
def Oper.alone(E:Env)(o:Oper):Bool:=match o.op with
 | .store .. | .mapUpdate .. | .insert .. => true
 | _=>match o.dst with
  | some d=>E.own.contains d
  | none=>false
def BA(u v:TV):Prop:=match u.Z9 v.τ with
 | some x=>x=v.x
 | none=>False
def a1n:Op->Option (List Operand)
 | .move x | .assign x | .nilCheck x | .fieldAddr _ x _ | .load _ x | .box _ x | .extract x _=>some [x]
 | .indexAddr _ x i | .store _ x i | .lookup _ x i _=>some [x,i]
 | .mapUpdate _ m k x | .insert _ m k x=>some [m,k,x]
 | .makeMap _ none=>some []
 | .alloc _=>some []
 | .binOp _ _ x y _=>some [x,y]
 | .build _ ps=>some (ps.toList.map (·.2))
 | .buildSlice _ _ ps=>some (ps.toList.map (·.2))
 | .call c=>match c.callee with
  | .value f=>some (f::c.args.toList)
  | .builtin _=>some c.args.toList
  | _=>none
 | .pick c x y=>some [c,x,y]
 | .slice _ x l h m=>some (x::(l.toList++(h.toList++m.toList)))
 | _=>none
def fW(D:List Nat)(o:Oper):Bool:=match a1n o.op with
 | some l=>l.all λ x=>match x with
  | .tmp t => !D.contains t
  | _=>true
 | none=>false
def reads:Op->Bool
 | .move _ | .nilCheck _ | .fieldAddr .. | .load .. | .indexAddr .. => true
 | _=>false
def rop(E:Env)(s:ah)(o:Oper):Option (Vc×AV):=match reads o.op with
 | true=>match On E s.af s.eval o with
  | some (vc,v,none)=>some (vc,v)
  | _=>none
 | false=>none
def OY:AV->AV->Prop
 | .aI v, .aI u=>BA v u
 | .dc v, .dc u=>BA v u
 | .aw i, .aw j=>i=j
 | .row i, .row j=>i=j
 | .ptr i p, .ptr j q=>i=j/\p=q
 | .nil, .nil=>True
 | .eh, .eh=>True
 | _,_=>False
def Wc:List AV->List AV->Prop
 | [],[]=>True
 | a::Z9,b::bs=>OY a b/\Wc Z9 bs
 | _,_=>False
def a0E(a b:AV):Prop:=match a,b with
 | .agg Z9, .agg bs=>Wc Z9 bs
 | a,b=>OY a b
def gY(E:Env):List (Nat×Oper)->ah->Prop->Prop
 | [],_,K=>K
 | r::rs,s,K=>match r.2.dst,rop E s r.2 with
  | some d,some (vc,v)=>vc.and (a0E v (s.aB.getD d .any)/\gY E rs s K)
  | _,_=>False
def OZ(E:Env):List (Nat×Oper)->(ah->Prop)->ah->Prop
 | [],K,s=>K s
 | r::rs,K,s=>match r.2.dst,rop E s r.2 with
  | some d,some (vc,v)=>vc.and (known v (OZ E rs K (s.put (some d) v)))
  | _,_=>False
def dstsOf(R:List (Nat×Oper)):List Nat:=R.filterMap λ r=>r.2.dst
def oN:Op->Bool
 | .alloc _=>true
 | _=>false
def kv:Op->Bool
 | .extract .. => true
 | _=>false
def y9:Op->Bool
 | .buildSlice _ len ps=>Nat.beq len 0&&Nat.beq ps.size 0
 | _=>false
def JU(E:Env)(o:Oper):Bool:=match o.dst with
 | some d=>E.ro.contains d
 | none=>false
def dv(E:Env)(o:Oper):Bool:=oN o.op||(kv o.op||(y9 o.op&&JU E o))
def uP(E:Env)(X:List (Nat×Oper)):List Nat:=X.filterMap λ x=>match dv E x.2 with
 | true=>x.2.dst
 | false=>none
def Cg(s:ah):Op->Bool
 | .extract t i=>match s.eval t with
  | .iR vs=>Nat.blt i vs.length
  | _=>false
 | _=>true
def a1e(E:Env)(cm:List Nat)(X:List (Nat×Oper))(s:ah):Bool:=X.all λ e=>Cg s e.2.op||X.any λ y => !dv E y.2&&Nat.testBit (cm.getD e.1 0) y.1
def Qg(cm:List Nat)(x:Nat×Oper):List (Nat×Oper)->List (Nat×Oper)
 | []=>[x]
 | y::ys=>match Nat.testBit (cm.getD y.1 0) x.1 with
  | true=>x::y::ys
  | false=>y::Qg cm x ys
def NS(E:Env)(cm:List Nat):List (Nat×Oper)->List (Nat×Oper)
 | []=>[]
 | x::xs=>match dv E x.2 with
  | true=>Qg cm x (NS E cm xs)
  | false=>x::NS E cm xs
def qK(E:Env)(o:Oper):Bool:=match o.op with
 | .alloc T=>o.dst.isSome&&(wK o.dst&&(af E.ty T).isSome)
 | .extract .. => o.dst.isSome
 | .buildSlice T len ps => !(Nat.beq len 0&&Nat.beq ps.size 0&&JU E o)||(match o.dst,af E.ty T with
  | some d,some (.slice _,_)=>Nat.blt d 400000&&(E.ro.contains d && !E.own.contains d)
  | _,_=>false)
 | _=>true
def Wm(E:Env)(cm:List Nat)(X:List (Nat×Oper))(y:Nat×Oper):Bool := !dv E y.2&&X.all λ z=>dv E z.2 || !Nat.testBit (cm.getD y.1 0) z.1
def Ev(p:Nat×Oper->Bool)(f:Nat×Oper->Prop):List (Nat×Oper)->Prop
 | []=>True
 | y::ys=>match p y with
  | true=>f y/\Ev p f ys
  | false=>Ev p f ys
def iy(E:Env)(cm:List Nat):Nat->List (Nat×Oper)->List (Nat×Oper)->(ah->Prop)->ah->Prop
 | 0,_,X,K,s=>match X with
  | []=>K s
  | _::_=>False
 | n+1,R,X,K,s=>match X with
  | []=>K s
  | x::xs=>match a1e E cm (x::xs) s with
   | true=>match fW (dstsOf (R.filter λ r => !Nat.testBit (cm.getD x.1 0) r.1)++uP E xs) x.2&&xs.all λ y=>dv E y.2||Nat.testBit (cm.getD y.1 0) x.1 with
    | true=>lO E x.2 (λ s'=>gY E (R.filter λ r => !Nat.testBit (cm.getD x.1 0) r.1) s' (iy E cm n (R.filter λ r => !Nat.testBit (cm.getD x.1 0) r.1) xs K s')) s
    | false=>match dv E x.2 with
     | true=>False
     | false=>Ev (Wm E cm (x::xs)) (λ y=>match fW (dstsOf (R.filter λ r => !Nat.testBit (cm.getD y.1 0) r.1)++uP E ((x::xs).filter λ z => !Nat.beq z.1 y.1)) y.2 with
      | true=>lO E y.2 (λ s'=>gY E (R.filter λ r => !Nat.testBit (cm.getD y.1 0) r.1) s' (iy E cm n (R.filter λ r => !Nat.testBit (cm.getD y.1 0) r.1) ((x::xs).filter λ z => !Nat.beq z.1 y.1) K s')) s
      | false=>False) (x::xs)
   | false=>False
def l7:Nat->List Oper->List (Nat×Oper)
 | _,[]=>[]
 | i,o::r=>(i,o)::l7 (i+1) r
def Q6(E:Env)(o:Oper):Bool:=reads o.op&&(match o.dst with
 | some d => !E.own.contains d
 | none=>true)
def nJ(E:Env)(cm:List Nat)(fB:List (Nat×Oper))(r:Nat×Oper):Bool :=
 Q6 E r.2&&fB.all λ y=>Q6 E y.2 || !Nat.testBit (cm.getD r.1 0) y.1
def a7V(E:Env)(cm:List Nat)(fB:List (Nat×Oper)):Bool :=
 (fB.all λ r=>r.2.guard.isNone&&qK E r.2)&&fB.all λ r => !(nJ E cm fB r||kv r.2.op)||fW (dstsOf (fB.filter λ y => !Nat.testBit (cm.getD r.1 0) y.1)++bif kv r.2.op then uP E fB else []) r.2
def a4J(E:Env)(cm:List Nat)(fB:List (Nat×Oper))(K:ah->Prop)(s:ah):Prop :=
 match a7V E cm fB with
 | true=>OZ E (fB.filter (nJ E cm fB)) (λ s'=>gY E (fB.filter (nJ E cm fB)) s' (iy E cm fB.length (fB.filter (nJ E cm fB)) (NS E cm (fB.filter λ r => !nJ E cm fB r)) K s')) s
 | false=>False
def zK(E:Env)(ops:Array Oper)(l:List Oper)(cm:List Nat):List Nat->Nat->List (Nat×Bool)->(ah->Prop)->ah->Prop
 | [],lo,_,Q,s=>match Nat.beq lo l.length with
  | true=>Q s
  | false=>False
 | hi::r,lo,kn,Q,s=>match Xj cm hi&&(Xj cm lo&&(Nat.blt lo hi&&Nat.ble hi l.length)) with
  | true=>match Nat.beq hi (lo+1) with
   | true=>fv E ops ((l.take hi).drop lo) kn (zK E ops l cm r hi kn Q) s
   | false=>match IT l lo hi,((l.take hi).drop lo).any (Oper.alone E) with
    | true,true=>a4J E cm (l7 lo ((l.take hi).drop lo)) (zK E ops l cm r hi kn Q) s
    | true,false=>nt E l hi cm lo ((l.take hi).drop lo) kn (λ kn s=>zp ((l.take hi).drop lo) s (zK E ops l cm r hi kn Q s)) (((l.take hi).drop lo).foldl ah.fresh s)
    | false,_=>False
  | false=>False
def We(E:Env)(ops:Array Oper)(Q:ah->Prop)(s:ah):Prop :=
 let l:=ops.toList
 let cm:=bV l []
 let m:=oR cm 0 0
 match ((l.take m).all λ o=>wK o.dst)&&(distinct ((l.take m).map (·.dst))&&backward l) with
 | true=>nt E l m cm 0 (l.take m) [] (λ kn s=>zp (l.take m) s (fv E ops (l.drop m) kn Q s)) ((l.take m).foldl ah.fresh s)
 | false=>False
def RA(E:Env)(ops:Array Oper)(Q:ah->Prop)(s:ah):Prop :=
 let l:=ops.toList
 let cm:=bV l []
 match (l.take (oR cm 0 0)).any (Oper.alone E) with
 | false=>We E ops Q s
 | true=>match backward l with
  | true=>zK E ops l cm (a0J cm ((List.range l.length).map (·+1))) 0 [] Q s
  | false=>False
def a1I(E:Env)(ops:Array Oper)(Q:ah->Prop)(s:ah):Prop:=RA E ops Q s
inductive aE:Type 1 where
 | none
 | mk (ι:Type) (P:ι->Prop) (μ:ι->Nat) (fz dead:List Nat) (ins:ι->List (Nat×AV)) (aR:List Nat) (os:ι->List (Nat×aD)) (a0n ren:List (Nat×Nat)) (sub:ι->Nat->aE)
def Code.Fw:Code->List Nat
 | .region _ ops _=>ops.toList.filterMap (·.dst)
 | .seq a b=>Code.Fw a++Code.Fw b
 | .cond _ a b=>Code.Fw a++Code.Fw b
 | .block _ c=>Code.Fw c
 | .loop c=>Code.Fw c
 | .scope c=>Code.Fw c
 | _=>[]
def Code.first:Code->Option Nat
 | .region id _ _=>some id
 | .seq a _=>Code.first a
 | .block _ c=>Code.first c
 | .loop c=>Code.first c
 | .cond _ a _=>Code.first a
 | _=>none
def Code.a9b(Λ:Nat->aE)(b:Code):aE:=match Code.first b with
 | some r=>Λ (r+100000)
 | none => .none
def a5w(sl:List AV):List (Nat×AV)->List AV
 | []=>sl
 | (t,v)::r=>a5w (sl.set t v) r
def Sf(aR:List Nat):List (Nat×aD)->List (Nat×aD)
 | []=>[]
 | (k,o)::r=>match aR.contains k with
  | true=>(k,o)::Sf aR r
  | false=>Sf aR r
def tp(s:ah)(Fw:List Nat)(ins:List (Nat×AV))(aR:List Nat)(os:List (Nat×aD)):ah :=
 { aB:=a5w (Fw.foldl (λ l t=>l.set t .any) s.aB) ins,aN:=os++Sf aR s.aN }
def dr(ρ:List (Nat×Nat))(id:Nat):Nat:=match af ρ id with
 | some k=>k
 | none=>id
def isRow:Option aD->Bool
 | some (.row ..)=>true
 | _=>false
def fZ:Option aD->Bool
 | some (.box _)=>true
 | _=>false
def NL:Option aD->Bool
 | some (.map _)=>true
 | _=>false
def AV.yI(ρ:List (Nat×Nat))(s t:ah)(a b:AV):Prop :=
 match b with
 | .any=>True
 | .aI v=>match a with
  | .aI u=>BA u v
  | .nil=>match v with
   | ⟨.slice _,xs⟩=>xs=[]
   | _=>False
  | _=>False
 | .nil=>match a with
  | .nil=>True
  | _=>False
 | .dc v=>match a with
  | .dc u=>BA u v
  | _=>False
 | .ptr id off=>match a with
  | .ptr i o=>match Nat.beq i (dr ρ id)&&Nat.beq o off&&fZ (t.af id) with
   | true=>True
   | false=>False
  | _=>False
 | .row id=>match a with
  | .row i=>match Nat.beq i (dr ρ id)&&isRow (t.af id) with
   | true=>True
   | false=>False
  | .nil=>match isRow (t.af id),s.af (dr ρ id) with
   | true,Option.none=>True
   | _,_=>False
  | _=>False
 | .aw id=>match a with
  | .aw i=>match Nat.beq i (dr ρ id)&&cx (t.af id) with
   | true=>True
   | false=>False
  | .nil=>match cx (t.af id),s.af (dr ρ id) with
   | true,Option.none=>True
   | _,_=>False
  | _=>False
 | .fn f=>match a with
  | .fn g=>match Nat.beq f g with
   | true=>True
   | false=>False
  | _=>False
 | .mp id=>match a with
  | .mp i=>match Nat.beq i (dr ρ id)&&NL (t.af id) with
   | true=>True
   | false=>False
  | _=>False
 | _=>False
def L2(ρ:List (Nat×Nat))(s t:ah):List AV->List AV->Prop
 | [],[]=>True
 | a::Z9,b::bs=>match b with
  | .any=>L2 ρ s t Z9 bs
  | b=>AV.yI ρ s t a b/\L2 ρ s t Z9 bs
 | _,_=>False
def AV.a9N(ρ:List (Nat×Nat))(s t:ah)(a b:AV):Prop :=
 match a,b with
 | .agg Z9, .agg bs=>L2 ρ s t Z9 bs
 | a,b=>AV.yI ρ s t a b
def a2b(ρ:List (Nat×Nat))(s t:ah):List AV->List AV->Prop
 | [],[]=>True
 | a::Z9,b::bs=>match b with
  | .any=>a2b ρ s t Z9 bs
  | b=>AV.a9N ρ s t a b/\a2b ρ s t Z9 bs
 | _,_=>False
def a4U(u v:FV):Prop:=match u.Z9 v.ps v.r with
 | some F=>F=v.F
 | none=>False
def AV.fit(ρ:List (Nat×Nat))(s t:ah)(a b:AV):Prop :=
 match a,b with
 | .di f Z9, .di g bs=>match Nat.beq f g with
  | true=>a2b ρ s t Z9 bs
  | false=>False
 | .iC u, .iC v=>a4U u v
 | .agg Z9, .agg bs=>L2 ρ s t Z9 bs
 | .agg Z9, .aI v=>match Hr (λ _=>none) v.τ (.agg Z9) with
  | some x=>x=v.x
  | none=>False
 | a,b=>AV.yI ρ s t a b
def EA(ρ:List (Nat×Nat))(s t:ah):List AV->List AV->Prop
 | [],[]=>True
 | a::Z9,b::bs=>match b with
  | .any=>EA ρ s t Z9 bs
  | b=>AV.fit ρ s t a b/\EA ρ s t Z9 bs
 | _,_=>False
def toO(x:J):oS:=⟨x.aq,x.aM,some x.M⟩
def a1w(bj:Ty)(ys:List bj.den)(τ:Ty)(xs:List τ.den):Prop :=
 match decide (τ = .st .oExpr),decide (bj = .st .expr) with
 | true,true=>BA ⟨.slice (.st .oExpr),((show Option (List J) from TV.Z9 (.slice (.st .expr)) ⟨.slice bj,ys⟩).getD []).map toO⟩ ⟨.slice τ,xs⟩
 | _,_=>BA ⟨.slice bj,ys⟩ ⟨.slice τ,xs⟩
def a3Y(a b:MV):Prop:=match a.Z9 b.κ b.ε with
 | some (f,n)=>f=b.f/\n=b.n
 | none=>False
def kW(ρ:List (Nat×Nat))(s t:ah):List (Nat×aD)->Prop
 | []=>True
 | (id, .box bs)::r=>match s.af (dr ρ id) with
  | some (.box Z9)=>L2 ρ s t Z9 bs/\kW ρ s t r
  | _=>False
 | (id, .row e τ xs)::r=>match s.af (dr ρ id) with
  | some (.row e' bj ys)=>match Nat.beq e e' with
   | true=>BA ⟨.slice bj,ys⟩ ⟨.slice τ,xs⟩/\kW ρ s t r
   | false=>False
  | Option.none=>xs=[]/\kW ρ s t r
  | _=>False
 | (id, .aw τ xs)::r=>match s.af (dr ρ id) with
  | some (.aw bj ys)=>a1w bj ys τ xs/\kW ρ s t r
  | Option.none=>xs=[]/\kW ρ s t r
  | _=>False
 | (id, .map m)::r=>match s.af (dr ρ id) with
  | some (.map m')=>a3Y m' m/\kW ρ s t r
  | _=>False
def Fits(ρ:List (Nat×Nat))(s t:ah):Prop :=
 match (nodupB (t.aN.map (·.1))&&nodupB (t.aN.map λ p=>dr ρ p.1))&&t.aN.all (λ p=>Nat.blt p.1 50||(Nat.ble 100 p.1||(Nat.beq (dr ρ p.1) p.1&&cx (s.af p.1))))&&t.aN.all (λ p=>Nat.blt p.1 400000||(!fZ (some p.2)||(Nat.beq (dr ρ p.1) p.1&&fZ (s.af p.1)))) with
 | true=>EA ρ s t s.aB t.aB/\kW ρ s t t.aN
 | false=>False
def a8c(ρ:List (Nat×Nat))(a b:AV):List (Nat×Nat):=match b with
 | .aw k=>match a with
  | .aw i=>match Nat.beq i (dr ρ k) with
   | true=>[]
   | false=>[(k,i)]
  | _=>[]
 | _=>[]
def a4o(ρ:List (Nat×Nat)):List AV->List AV->List (Nat×Nat)
 | a::Z9,b::bs=>a8c ρ a b++a4o ρ Z9 bs
 | _,_=>[]
def b1b(ρ:List (Nat×Nat))(a b:AV):List (Nat×Nat):=match b with
 | .agg bs=>match a with
  | .agg Z9=>a4o ρ Z9 bs
  | _=>[]
 | b=>a8c ρ a b
def Yh(ρ:List (Nat×Nat)):List AV->List AV->List (Nat×Nat)
 | a::Z9,b::bs=>b1b ρ a b++Yh ρ Z9 bs
 | _,_=>[]
def Ko(ρ:List (Nat×Nat))(s:ah):List (Nat×aD)->List (Nat×Nat)
 | []=>[]
 | (id, .box bs)::r=>match s.af (dr ρ id) with
  | some (.box Z9)=>a4o ρ Z9 bs++Ko ρ s r
  | _=>Ko ρ s r
 | _::r=>Ko ρ s r
def a0R:List (Nat×Nat)->(List (Nat×Nat)->Prop)->Prop
 | [],K=>K []
 | (a,b)::r,K=>a0R r λ r'=>K ((a,b)::r')
def PF:∀ {l:List (Nat×Nat)} {K:List (Nat×Nat)->Prop},a0R l K->K l
 | [],_,h=>h
 | (a,b)::r,K,h=>PF (l:=r) (K:=λ r'=>K ((a,b)::r')) h
def VW(ρ:List (Nat×Nat))(s t:ah):Prop:=a0R (Ko ρ s t.aN++Yh ρ s.aB t.aB) λ r=>Fits (r++ρ) s t
def VW.ex{ρ:List (Nat×Nat)}{s t:ah}(h:VW ρ s t):∃ r,Fits (r++ρ) s t:=⟨_,PF h⟩
def vJ(E:Env):Code->(Nat->aE)->Nat->(Exit->ah->Prop)->ah->Prop
 | .skip,_,_,Q,s=>Q .normal s
 | .region _ ops draw,_,_,Q,s=>match draw with
  | true=>a1I E ops (Q .normal) s
  | false=>fv E ops ops.toList [] (Q .normal) s
 | .seq a b,Λ,cur,Q,s=>match Code.a9b Λ b with
  | .none=>vJ E a Λ cur (λ e s'=>match e with
   | .normal=>vJ E b Λ cur Q s'
   | e=>Q e s') s
  | .mk ι P _ fz dead ins aR os a0n _ sub =>
   let Fw:=dead++Code.Fw a;vJ E a Λ cur (λ e s'=>match e with
    | .normal=>∃ j:ι,P j/\VW a0n (fz.foldl ah.freeze s') (tp s Fw (ins j) aR (os j))
    | e=>Q e s') s /\
   ∀ i:ι,P i->vJ E b (sub i) cur Q (tp s Fw (ins i) aR (os i))
 | .cond c a b,Λ,cur,Q,s=>match s.eval c with
  | .aI ⟨.bool,t⟩=>(t=true->vJ E a Λ cur Q s)/\(t=false->vJ E b Λ cur Q s)
  | _=>False
 | .block id c,Λ,_,Q,s=>vJ E c Λ id (λ e s'=>match e with
  | .exit i=>match Nat.beq i id with
   | true=>Q .normal s'
   | false=>Q (.exit i) s'
  | e=>Q e s') s
 | .loop c,Λ,cur,Q,s=>match Λ cur with
  | .none=>False
  | .mk ι P μ fz dead ins aR os a0n ren sub =>
   let Fw:=dead++Code.Fw c;(∃ i:ι,P i/\VW a0n (fz.foldl ah.freeze s) (tp s Fw (ins i) aR (os i))) /\
   ∀ i:ι,P i->vJ E c (sub i) cur (λ e s'=>match e with
    | .normal=>∃ j:ι,P j/\μ j<μ i/\VW ren (fz.foldl ah.freeze s') (tp s Fw (ins j) aR (os j))
    | e=>Q e s') (tp s Fw (ins i) aR (os i))
 | .exit id,_,_,Q,s=>Q (.exit id) s
 | .ret,_,_,Q,s=>Q .ret s
 | .label _,_,_,Q,s=>Q .normal s
 | _,_,_,_,_=>False
def Tn(E:Env)(s:ah):List ResultVar->List TypeId->Option (List TV)
 | [],[]=>some []
 | r::rs,T::Ts=>match af E.ty T with
  | some (τ,_)=>match (match r with
    | .tmp t=>Hr (QE s.af) τ (s.eval (.tmp t))
    | .cell a t=>match Nat.beq t T with
     | true=>deref (QE s.af) τ (s.eval (.tmp a))
     | false=>none) with
   | some x=>match Tn E s rs Ts with
    | some l=>some (⟨τ,x⟩::l)
    | none=>none
   | none=>none
  | none=>none
 | _,_=>none
def V7:Arg->AV
 | .val v => .aI v
 | .ref v => .dc v
 | .fn f => .fn f
 | .di v => .iC v
 | .own _ => .any
 | .box _ => .any
def dP(fn:Func)(args:List Arg):ah :=
 { aB:=args.map V7++List.replicate (fn.ntmps - args.length) .any,aN:=[] }
def uG:Nat->List Arg->ah->ah
 | _,[],s=>s
 | p, .own v::r,s=>uG (p+1) r { aB:=s.aB.set p (fg (1000000+100 * p) v),aN:=ca (1000000+100 * p) v.cells++s.aN }
 | p,_::r,s=>uG (p+1) r s
def VS(fn:Func)(args:List Arg):ah:=uG 0 args (dP fn args)
def Aq(E:Env)(fn:Func)(post:List TV->Prop)(e:Exit)(s:ah):Prop :=
 match e with
 | .ret | .normal=>match Tn E s fn.results.toList fn.resultTypes.toList with
  | some vs=>post vs
  | none=>False
 | _=>False
def zz:List TV->List TV->Prop
 | [],[]=>True
 | [v],[u]=>BA v u
 | v::vs,u::us=>BA v u/\zz vs us
 | _,_=>False
end
def ct(w:World)(b o:Nat)(cs:List Value):Prop:=∀ j v,cs[j]?=some v->w.cell? ⟨b,o+j,none⟩=some v
def D.size:D->Nat
 | .agg ds=>ds.length
 | _=>1
mutual
def Rd(w:World)(S:Nat->Prop):D->List Value->Prop
 | .int k n,cs=>cs=[.int k n]/\k.min<=n/\n<=k.max
 | .bool b,cs=>cs=[.bool b]
 | .str s,cs=>∃ x:ByteArray,cs=[.string x]/\x.data.toList=s/\x.size<=140737488355328
 | .slice _ xs,cs=>∃ a cap,cs=[.slice a xs.length cap]/\xs.length<=cap/\cap<=maxLen/\xs.length<=140737488355328/\(xs=[]\/∃ b o,a=some ⟨b,o,none⟩/\S b/\du w S xs b o)
 | .agg ds,cs=>dq w S ds cs
 | .hole,cs=>∃ a n m,cs=[.slice a n m]
 | .ptr,cs=>∃ p,cs=[.pointer p]
def dq(w:World)(S:Nat->Prop):List D->List Value->Prop
 | [],cs=>cs=[]
 | d::ds,cs=>∃ v r,cs=v::r/\Rd w S d [v]/\dq w S ds r
def du(w:World)(S:Nat->Prop):List D->Nat->Nat->Prop
 | [],_,_=>True
 | d::ds,b,o=>(∃ cs,cs.length=d.size/\Rd w S d cs/\ct w b o cs)/\du w S ds b (o+d.size)
end
def ct.aR{w w':World}{b o:Nat}{cs:List Value}(h:ct w b o cs)(hb:w'.heap[b]?=w.heap[b]?):ct w' b o cs :=
 λ j v hj=>by rw[<-h j v hj];exact b6h (a:=⟨b,o+j,none⟩) hb
mutual
def Rd.aR{w w':World}{S S':Nat->Prop}(hS:∀ b,S b->S' b)(hw:∀ b,S b->w'.heap[b]?=w.heap[b]?):∀ (d:D) {cs:List Value},Rd w S d cs->Rd w' S' d cs
 | .int _ _,_,h=>h
 | .bool _,_,h=>h
 | .str _,_,h=>h
 | .slice _ xs,_,h=>by
  obtain⟨a,cap,h1,h2,h3,h4,h5⟩:=h;refine⟨a,cap,h1,h2,h3,h4,h5.imp id ?_⟩;rintro⟨b,o,ha,hb,hr⟩;exact⟨b,o,ha,hS b hb,du.aR hS hw xs b o hb hr⟩
 | .agg ds,_,h=>dq.aR hS hw ds h
 | .hole,_,h=>h
 | .ptr,_,h=>h
def dq.aR{w w':World}{S S':Nat->Prop}(hS:∀ b,S b->S' b)(hw:∀ b,S b->w'.heap[b]?=w.heap[b]?):∀ (ds:List D) {cs:List Value},dq w S ds cs->dq w' S' ds cs
 | [],_,h=>h
 | d::ds,_,h=>by
  obtain⟨v,r,h1,h2,h3⟩:=h;exact⟨v,r,h1,Rd.aR hS hw d h2,dq.aR hS hw ds h3⟩
def du.aR{w w':World}{S S':Nat->Prop}(hS:∀ b,S b->S' b)(hw:∀ b,S b->w'.heap[b]?=w.heap[b]?):∀ (ds:List D) (b o:Nat),S b->du w S ds b o->du w' S' ds b o
 | [],_,_,_,_=>trivial
 | d::ds,b,o,hb,h=>by
  obtain⟨⟨cs,h1,h2,h3⟩,h4⟩:=h;exact⟨⟨cs,h1,Rd.aR hS hw d h2,h3.aR (hw b hb)⟩,du.aR hS hw ds b _ hb h4⟩
end
def dq.length{w:World}{S:Nat->Prop}:∀ (ds:List D) {cs:List Value},dq w S ds cs->cs.length=ds.length
 | [],_,h=>by rw[show _=[] from h];rfl
 | d::ds,_,h=>by
  obtain⟨v,r,rfl,_,h3⟩:=h;simp[dq.length ds h3]
def Rd.length{w:World}{S:Nat->Prop}(d:D){cs:List Value}(h:Rd w S d cs):cs.length=d.size:=by
 cases d with
 | int k n=>rw[h.1];rfl
 | bool b=>rw[show cs=_ from h];rfl
 | str s=>obtain⟨x,h,_⟩:=h;rw[h];rfl
 | slice n xs=>obtain⟨a,cap,h,_⟩:=h;rw[h];rfl
 | agg ds=>exact dq.length ds h
 | hole=>obtain⟨a,n,m,h⟩:=h;rw[h];rfl
 | ptr=>obtain⟨p,h⟩:=h;rw[h];rfl
def Ty.cP(t:Ty)(x:t.den):(t.aQ x).size=t.size:=by
 cases t with
 | st s=>simp[Ty.aQ,aS.cA,D.size,Ty.size,aS.iT]
 | mv t=>cases (show Option (List t.den) from x)<;>rfl
 | _=>rfl
def du.at_{w:World}{S:Nat->Prop}{n:Nat}:∀ (ds:List D) (b o:Nat),du w S ds b o->(∀ d∈ds,d.size=n)->∀ i d,ds[i]?=some d ->
  ∃ cs,cs.length=n/\Rd w S d cs/\ct w b (o+i * n) cs
 | [],_,_,_,_,i,d,h=>by simp at h
 | e::ds,b,o,h,hn,0,d,hi=>by
  obtain⟨⟨cs,h1,h2,h3⟩,_⟩:=h;simp at hi;subst hi;exact⟨cs,by rw[h1];exact hn _ (by simp),h2,by simpa using h3⟩
 | e::ds,b,o,h,hn,i+1,d,hi=>by
  obtain⟨_,h4⟩:=h;rw[hn e (by simp)] at h4;obtain⟨cs,h1,h2,h3⟩:=du.at_ ds b (o+n) h4 (λ d hd=>hn d (by simp[hd])) i d (by simpa using hi);exact⟨cs,h1,h2,by rw[show o+(i+1) * n=o+n+i * n by rw[Nat.add_mul];omega];exact h3⟩
def du.a7j{w:World}{S:Nat->Prop}{n:Nat}:∀ (k:Nat) (ds:List D) (b o:Nat),du w S ds b o->(∀ d∈ds,d.size=n)->du w S (ds.drop k) b (o+k * n)
 | 0,ds,b,o,h,_=>by simpa using h
 | k+1,[],b,o,h,_=>by simp[du]
 | k+1,d::ds,b,o,h,hn=>by
  have:=du.a7j k ds b (o+n) (by have:=h.2;rwa [hn d (by simp)] at this) (λ d hd=>hn d (by simp[hd]));rw[show o+(k+1) * n=o+n+k * n by rw[b4X];omega];exact this
def du.a8v{w:World}{S:Nat->Prop}:∀ (k:Nat) (ds:List D) (b o:Nat),du w S ds b o->du w S (ds.take k) b o
 | 0,ds,b,o,h=>by simp[du]
 | k+1,[],b,o,h=>by simp[du]
 | k+1,d::ds,b,o,h=>⟨h.1,du.a8v k ds b _ h.2⟩
def dT(w:World)(S:Nat->Prop):List D->List Value->Prop
 | [],l=>l=[]
 | d::ds,l=>∃ c r,l=c++r/\Rd w S d c/\dT w S ds r
def dT.aR{w w':World}{S S':Nat->Prop}(hS:∀ b,S b->S' b)(hw:∀ b,S b->w'.heap[b]?=w.heap[b]?):∀ (ds:List D) {l:List Value},dT w S ds l->dT w' S' ds l
 | [],_,h=>h
 | d::ds,_,h=>by
  obtain⟨c,r,h1,h2,h3⟩:=h;exact⟨c,r,h1,Rd.aR hS hw d h2,dT.aR hS hw ds h3⟩
def dT.append{w:World}{S:Nat->Prop}:∀ (ds es:List D) {l m:List Value},dT w S ds l->dT w S es m->dT w S (ds++es) (l++m)
 | [],_,_,_,h,k=>by rw[show _=[] from h];simpa using k
 | d::ds,es,_,m,h,k=>by
  obtain⟨c,r,rfl,h2,h3⟩:=h;exact⟨c,r++m,by simp,h2,dT.append ds es h3 k⟩
def dT.length{w:World}{S:Nat->Prop}{n:Nat}:∀ (ds:List D) {l:List Value},dT w S ds l->(∀ d∈ds,d.size=n)->l.length=ds.length * n
 | [],_,h,_=>by rw[show _=[] from h];simp
 | d::ds,_,h,hn=>by
  obtain⟨c,r,rfl,h2,h3⟩:=h;rw[b3U,Rd.length d h2,hn d (by simp),dT.length ds h3 (λ d hd=>hn d (by simp[hd])),b3P,b4X];omega
def dT.row{w:World}{S:Nat->Prop}:∀ (ds:List D) {l:List Value} (b o:Nat),dT w S ds l->ct w b o l->du w S ds b o
 | [],_,_,_,_,_=>trivial
 | d::ds,_,b,o,h,hc=>by
  obtain⟨c,r,rfl,h2,h3⟩:=h;refine⟨⟨c,Rd.length d h2,h2,λ j v hj=>hc j v ?_⟩,dT.row ds b _ h3 λ j v hj=>?_⟩
  .rw[b5J]
   .exact hj
   .exact (b4B.1 hj).1
  .have:=hc (c.length+j) v (by rw[List.getElem?_append_right (by omega)];simpa using hj);rwa [Rd.length d h2,<-Nat.add_assoc] at this
def du.cells{w:World}{S:Nat->Prop}:∀ (ds:List D) (b o:Nat),du w S ds b o->∃ l,dT w S ds l/\ct w b o l
 | [],_,_,_=>⟨[],rfl,λ j v h=>by simp at h⟩
 | d::ds,b,o,h=>by
  obtain⟨⟨c,h1,h2,h3⟩,h4⟩:=h;obtain⟨r,h5,h6⟩:=du.cells ds b _ h4;refine⟨c++r,⟨c,r,rfl,h2,h5⟩,λ j v hj=>?_⟩;rcases b4J j c.length with bN|hge
  .exact h3 j v (by rwa [b5J bN] at hj)
  .rw[b5g hge] at hj;have:=h6 (j - c.length) v hj;rwa [<-h1,show o+c.length+(j - c.length)=o+j by omega] at this
def dT.at_{w:World}{S:Nat->Prop}{n:Nat}:∀ (ds:List D) {l:List Value},dT w S ds l->(∀ d∈ds,d.size=n)->∀ i d,ds[i]?=some d->Rd w S d ((l.drop (i * n)).take n)
 | [],_,_,_,i,d,h=>by simp at h
 | e::ds,_,h,hn,0,d,hi=>by
  obtain⟨c,r,rfl,h2,h3⟩:=h;simp at hi;subst hi;have:c.length=n:=by rw[Rd.length _ h2];exact hn _ (by simp)
  simpa [<-this] using h2
 | e::ds,_,h,hn,i+1,d,hi=>by
  obtain⟨c,r,rfl,h2,h3⟩:=h;have hc:c.length=n:=by rw[Rd.length _ h2];exact hn _ (by simp)
  have:=dT.at_ ds h3 (λ d hd=>hn d (by simp[hd])) i d (by simpa using hi);have h0:List.drop (n+i * n) c=[]:=List.drop_eq_nil_of_le (by omega);rw[show (i+1) * n=n+i * n by rw[Nat.add_mul];omega,List.drop_append,h0,List.nil_append,show n+i * n - c.length=i * n by omega];exact this
def xX:Value->Bool
 | .int .. | .bool _ | .string _ | .slice .. | .pointer _=>true
 | _=>false
def D.leaf:D->Bool
 | .agg _=>false
 | _=>true
def Rd.xX{w:World}{S:Nat->Prop}{d:D}(hd:d.leaf=true){cs:List Value}(h:Rd w S d cs):∃ v,cs=[v]/\YtmjfpcajohhbeaaGreatDoor.xX v=true:=by
 cases d with
 | int k n=>exact⟨_,h.1,rfl⟩
 | bool b=>exact⟨_,h,rfl⟩
 | str s=>obtain⟨x,h,_⟩:=h;exact⟨_,h,rfl⟩
 | slice n xs=>obtain⟨a,cap,h,_⟩:=h;exact⟨_,h,rfl⟩
 | agg ds=>cases hd
 | hole=>obtain⟨a,n,m,h⟩:=h;exact⟨_,h,rfl⟩
 | ptr=>obtain⟨p,h⟩:=h;exact⟨_,h,rfl⟩
def CQ{v:Value}(h:YtmjfpcajohhbeaaGreatDoor.xX v=true):v.oneCell'=true:=by cases v<;>first|rfl|cases h
def Qq{v:Value}(h:YtmjfpcajohhbeaaGreatDoor.xX v=true):v.cells = #[v]:=by cases v<;>first|rfl|cases h
def SG{α:Type}(n:Nat)(f:α->D)(o:Option (List α)):(mvD n f o).leaf=true:=by cases o<;>rfl
def aS.qy(s:aS)(x:s.den):∀ v∈s.cells x,v.aQ.leaf=true:=by
 cases s<;>simp[aS.cells,TV.aQ,Ty.aQ,D.leaf]<;>exact SG _ _ _
mutual
def Ow(w:World):D->List Value->List Nat->Prop
 | .int k n,cs,fp=>(cs=[.int k n]/\k.min<=n/\n<=k.max)/\fp=[]
 | .bool b,cs,fp=>cs=[.bool b]/\fp=[]
 | .str s,cs,fp=>(∃ x:ByteArray,cs=[.string x]/\x.data.toList=s/\x.size<=140737488355328)/\fp=[]
 | .slice n xs,cs,fp=>∃ a cap,cs=[.slice a xs.length cap]/\xs.length<=cap/\cap<=maxLen/\xs.length<=140737488355328 /\
   ((xs=[]/\(a=none/\cap=0)/\fp=[])\/∃ b f l t,a=some ⟨b,0,none⟩/\fp=b::f/\w.heap[b]?=some (.cells l.toArray t (0,0))/\l.length=cap * n/\bR w xs l f)
 | .agg ds,cs,fp=>cZ w ds cs fp
 | .hole,cs,fp=>(∃ a n m,cs=[.slice a n m])/\fp=[]
 | .ptr,cs,fp=>(∃ p,cs=[.pointer p])/\fp=[]
def cZ(w:World):List D->List Value->List Nat->Prop
 | [],cs,fp=>cs=[]/\fp=[]
 | d::ds,cs,fp=>∃ v r f1 f2,cs=v::r/\fp=f1++f2/\Ow w d [v] f1/\cZ w ds r f2
def bR(w:World):List D->List Value->List Nat->Prop
 | [],_,fp=>fp=[]
 | d::ds,l,fp=>∃ c r f1 f2,l=c++r/\fp=f1++f2/\Ow w d c f1/\bR w ds r f2
end
def cZ.length{w:World}:∀ (ds:List D) {cs:List Value} {fp:List Nat},cZ w ds cs fp->cs.length=ds.length
 | [],_,_,h=>by rw[h.1];rfl
 | d::ds,_,_,h=>by
  obtain⟨v,r,f1,f2,rfl,_,_,h4⟩:=h;simp[cZ.length ds h4]
def Ow.length{w:World}(d:D){cs:List Value}{fp:List Nat}(h:Ow w d cs fp):cs.length=d.size:=by
 cases d with
 | int k n=>rw[h.1.1];rfl
 | bool b=>rw[h.1];rfl
 | str s=>obtain⟨⟨x,h,_⟩,_⟩:=h;rw[h];rfl
 | slice n xs=>obtain⟨a,cap,h,_⟩:=h;rw[h];rfl
 | agg ds=>exact cZ.length ds h
 | hole=>obtain⟨⟨a,n,m,h⟩,_⟩:=h;rw[h];rfl
 | ptr=>obtain⟨⟨p,h⟩,_⟩:=h;rw[h];rfl
def IH{w:World}{b:Nat}{p c r:List Value}{t:TypeId}(h:w.heap[b]?=some (.cells (p++(c++r)).toArray t (0,0))):ct w b p.length c:=by
 intro j v hj;have hl:j<c.length:=(b4B.1 hj).1;have h2:(p++(c++r))[p.length+j]?=some v:=by
  rw[b5g (by omega),b5W,b5J hl];exact hj
 simp[World.cell?,h,h2]
mutual
def Ow.rd{w:World}{S:Nat->Prop}:∀ (d:D) {cs:List Value} {fp:List Nat},Ow w d cs fp->(∀ b∈fp,S b)->Rd w S d cs
 | .int _ _,_,_,h,_=>h.1
 | .bool _,_,_,h,_=>h.1
 | .str _,_,_,h,_=>h.1
 | .slice n xs,_,_,h,hS=>by
  obtain⟨a,cap,h1,h2,h3,h4,h5⟩:=h;refine⟨a,cap,h1,h2,h3,h4,h5.imp And.left ?_⟩;rintro⟨b,f,l,t,rfl,rfl,hb,_,hr⟩;exact⟨b,0,rfl,hS b (by simp),bR.rd xs (p:=[]) (by simpa using hb) hr (λ b hb=>hS b (by simp[hb]))⟩
 | .agg ds,_,_,h,hS=>cZ.rd ds h hS
 | .hole,_,_,h,_=>h.1
 | .ptr,_,_,h,_=>h.1
def cZ.rd{w:World}{S:Nat->Prop}:∀ (ds:List D) {cs:List Value} {fp:List Nat},cZ w ds cs fp->(∀ b∈fp,S b)->dq w S ds cs
 | [],_,_,h,_=>h.1
 | d::ds,_,_,h,hS=>by
  obtain⟨v,r,f1,f2,h1,rfl,h3,h4⟩:=h;exact⟨v,r,h1,Ow.rd d h3 λ b hb=>hS b (by simp[hb]),cZ.rd ds h4 λ b hb=>hS b (by simp[hb])⟩
def bR.rd{w:World}{S:Nat->Prop}{b:Nat}{t:TypeId}:∀ (ds:List D) {p l:List Value} {fp:List Nat},w.heap[b]?=some (.cells (p++l).toArray t (0,0))->bR w ds l fp->(∀ b∈fp,S b)->du w S ds b p.length
 | [],_,_,_,_,_,_=>trivial
 | d::ds,p,_,_,hb,h,hS=>by
  obtain⟨c,r,f1,f2,rfl,rfl,h3,h4⟩:=h;have hl:=Ow.length d h3;refine⟨⟨c,hl,Ow.rd d h3 λ b hb=>hS b (by simp[hb]),IH hb⟩,?_⟩;have:=bR.rd ds (p:=p++c) (l:=r) (by simpa using hb) h4 (λ b hb=>hS b (by simp[hb]));rw[<-hl];simpa using this
end
mutual
def Ow.aR{w w':World}:∀ (d:D) {cs:List Value} {fp:List Nat},Ow w d cs fp->(∀ b∈fp,w'.heap[b]?=w.heap[b]?)->Ow w' d cs fp
 | .int _ _,_,_,h,_=>h
 | .bool _,_,_,h,_=>h
 | .str _,_,_,h,_=>h
 | .slice n xs,_,_,h,hw=>by
  obtain⟨a,cap,h1,h2,h3,h4,h5⟩:=h;refine⟨a,cap,h1,h2,h3,h4,h5.imp id ?_⟩;rintro⟨b,f,l,t,rfl,rfl,hb,hc,hr⟩;exact⟨b,f,l,t,rfl,rfl,by rw[hw b (by simp)];exact hb,hc,bR.aR xs hr λ b hb=>hw b (by simp[hb])⟩
 | .agg ds,_,_,h,hw=>cZ.aR ds h hw
 | .hole,_,_,h,_=>h
 | .ptr,_,_,h,_=>h
def cZ.aR{w w':World}:∀ (ds:List D) {cs:List Value} {fp:List Nat},cZ w ds cs fp->(∀ b∈fp,w'.heap[b]?=w.heap[b]?)->cZ w' ds cs fp
 | [],_,_,h,_=>h
 | d::ds,_,_,h,hw=>by
  obtain⟨v,r,f1,f2,h1,rfl,h3,h4⟩:=h;exact⟨v,r,f1,f2,h1,rfl,Ow.aR d h3 λ b hb=>hw b (by simp[hb]),cZ.aR ds h4 λ b hb=>hw b (by simp[hb])⟩
def bR.aR{w w':World}:∀ (ds:List D) {l:List Value} {fp:List Nat},bR w ds l fp->(∀ b∈fp,w'.heap[b]?=w.heap[b]?)->bR w' ds l fp
 | [],_,_,h,_=>h
 | d::ds,_,_,h,hw=>by
  obtain⟨c,r,f1,f2,h1,rfl,h3,h4⟩:=h;exact⟨c,r,f1,f2,h1,rfl,Ow.aR d h3 λ b hb=>hw b (by simp[hb]),bR.aR ds h4 λ b hb=>hw b (by simp[hb])⟩
end
mutual
def D.light:D->Bool
 | .slice .. => false
 | .agg ds=>D.Kk ds
 | _=>true
def D.Kk:List D->Bool
 | []=>true
 | d::ds=>d.light&&D.Kk ds
end
mutual
def Ow.eo{w:World}{S:Nat->Prop}:∀ (d:D) {cs:List Value},d.light=true->Rd w S d cs->Ow w d cs []
 | .int _ _,_,_,h=>⟨h,rfl⟩
 | .bool _,_,_,h=>⟨h,rfl⟩
 | .str _,_,_,h=>⟨h,rfl⟩
 | .slice n xs,_,hl,h=>by
  obtain⟨a,cap,h1,h2,h3,h4,h5⟩:=h;cases hl
 | .agg ds,_,hl,h=>cZ.eo ds hl h
 | .hole,_,_,h=>⟨h,rfl⟩
 | .ptr,_,_,h=>⟨h,rfl⟩
def cZ.eo{w:World}{S:Nat->Prop}:∀ (ds:List D) {cs:List Value},D.Kk ds=true->dq w S ds cs->cZ w ds cs []
 | [],_,_,h=>⟨h,rfl⟩
 | d::ds,_,hl,h=>by
  obtain⟨v,r,h1,h2,h3⟩:=h;simp only[D.Kk,b3J] at hl;exact⟨v,r,[],[],h1,rfl,Ow.eo d hl.1 h2,cZ.eo ds hl.2 h3⟩
end
def bR.eo{w:World}{S:Nat->Prop}:∀ (ds:List D) {l m:List Value},(∀ d∈ds,d.light=true)->dT w S ds l->bR w ds (l++m) []
 | [],_,_,_,_=>rfl
 | d::ds,_,m,hl,h=>by
  obtain⟨c,r,rfl,h2,h3⟩:=h;exact⟨c,r++m,[],[],by simp,rfl,Ow.eo d (hl d (by simp)) h2,bR.eo ds (λ d hd=>hl d (by simp[hd])) h3⟩
def LZ{α:Type}(c r:List α)(k:Nat):(c++r).drop (c.length+k)=r.drop k:=by
 rw[<-b5p,b5U]
def DT{α:Type}(c r:List α)(k:Nat):(c++r).take (c.length+k)=c++r.take k:=by
 rw[b7e,b4a (by omega),b5W]
def bR.split{w:World}{n:Nat}:∀ (ds:List D) {l:List Value} {fp:List Nat} (i:Nat) (d:D),bR w ds l fp->(∀ d∈ds,d.size=n)->ds[i]?=some d ->
  ∃ f0 f1 f2,fp=f0++f1++f2/\i * n+n<=l.length/\Ow w d ((l.drop (i * n)).take n) f1 /\
   ∀ (w':World) (d':D) (c':List Value) (iB:List Nat),(∀ b∈f0++f2,w'.heap[b]?=w.heap[b]?)->c'.length=n->Ow w' d' c' iB->bR w' (ds.set i d') (l.take (i * n)++c'++l.drop (i * n+n)) (f0++iB++f2)
 | [],_,_,_,_,_,_,h=>by simp at h
 | e::ds,l,fp,0,d,h,hn,hi=>by
  obtain⟨c,r,f1,f2,rfl,rfl,h3,h4⟩:=h;simp at hi;subst hi;have hc:c.length=n:=by rw[Ow.length _ h3];exact hn _ (by simp)
  refine⟨[],f1,f2,by simp,by simp;omega,?_,λ w' d' c' iB hw Ux HK=>?_⟩
  .simp only[b6E,b5O];rw[<-hc,b5P];exact h3
  .simp only[b6E,b4I,b4i,b5n,b6P];rw[<-hc,b5U];exact⟨c',r,iB,f2,rfl,rfl,HK,bR.aR ds h4 λ b hb=>hw b (by simp[hb])⟩
 | e::ds,l,fp,i+1,d,h,hn,hi=>by
  obtain⟨c,r,g1,g2,rfl,rfl,h3,h4⟩:=h;have hc:c.length=n:=by rw[Ow.length _ h3];exact hn _ (by simp)
  obtain⟨f0,f1,f2,rfl,hlen,k1,k2⟩:=bR.split ds i d h4 (λ d hd=>hn d (by simp[hd])) (by simpa using hi);have e1:(i+1) * n=c.length+i * n:=by rw[hc,Nat.add_mul];omega
  have e2:(i+1) * n+n=c.length+(i * n+n):=by omega
  refine⟨g1++f0,f1,f2,by simp,by simp;omega,?_,λ w' d' c' iB hw Ux HK=>?_⟩
  .rw[e1,LZ];exact k1
  .rw[e1,show c.length+i * n+n=c.length+(i * n+n) by omega,DT,LZ];have:=k2 w' d' c' iB (λ b hb=>hw b (by simp at hb ⊢;rcases hb with hb|hb<;>simp[hb])) Ux HK;rw[show (e::ds).set (i+1) d'=e::ds.set i d' from rfl];exact⟨c,r.take (i * n)++c'++r.drop (i * n+n),g1,f0++iB++f2,by simp,by simp,Ow.aR e h3 λ b hb=>hw b (by simp[hb]),this⟩
open Go.MapKept
def yV(τ:Ty)(x:τ.den)(v:Value):Prop:=∀ (w:World) (S:Nat->Prop),Rd w S (τ.aQ x) [v]
theorem yV.of{τ:Ty}(jx:τ.key=true){x:τ.den}{v:Value}{w:World}{S:Nat->Prop}(h:Rd w S (τ.aQ x) [v]):yV τ x v:=by
 intro w' S';cases τ with
 | int k=>exact h
 | bool=>exact h
 | str=>exact h
 | _=>cases jx
theorem yV.val{τ:Ty}(jx:τ.key=true){x y:τ.den}{v:Value}(h:yV τ x v)(k:yV τ y v)(w:World):x=y:=by
 have h:=h w (λ _=>False);have k:=k w (λ _=>False);cases τ with
 | int q =>
  simp only[Ty.aQ,Rd,List.cons.injEq,and_true] at h k;obtain⟨rfl,_⟩:=h;exact (by simpa using k.1)
 | bool =>
  simp only[Ty.aQ,Rd,List.cons.injEq,and_true] at h k;subst h;simpa using k
 | str =>
  obtain⟨a,h1,h2,_⟩:=h;obtain⟨b,k1,k2,_⟩:=k;simp only[b3O,b3T] at h1 k1;subst h1;simp only[Value.string.injEq] at k1;subst k1;exact h2.symm.trans k2
 | _=>cases jx
theorem yV.inj{τ:Ty}(jx:τ.key=true){x:τ.den}{v u:Value}(h:yV τ x v)(k:yV τ x u)(w:World):v=u:=by
 have h:=h w (λ _=>False);have k:=k w (λ _=>False);cases τ with
 | int q =>
  simp only[Ty.aQ,Rd,b3O,b3T] at h k;exact h.1.trans k.1.symm
 | bool =>
  simp only[Ty.aQ,Rd,b3O,b3T] at h k;exact h.trans k.symm
 | str =>
  obtain⟨⟨⟨a⟩⟩,h1,h2,_⟩:=h;obtain⟨⟨⟨b⟩⟩,k1,k2,_⟩:=k;simp only[b3O,b3T] at h1 k1;simp only at h2 k2;rw[h1,k1,h2,k2]
 | _=>cases jx
def descOf:Ty->TypeDesc
 | .int k => .int k
 | .str => .string
 | _ => .bool
theorem yV.isKey{τ:Ty}(jx:τ.key=true){x:τ.den}{v:Value}(h:yV τ x v)(w:World):IsKey (descOf τ) v:=by
 have h:=h w (λ _=>False);cases τ with
 | int q =>
  simp only[Ty.aQ,Rd,b3O,b3T] at h;obtain⟨rfl,_⟩:=h;rfl
 | bool =>
  simp only[Ty.aQ,Rd,b3O,b3T] at h;subst h;trivial
 | str =>
  obtain⟨a,h1,h2,_⟩:=h;simp only[b3O,b3T] at h1;subst h1;trivial
 | _=>cases jx
structure OK(m:MV)(es:Array MapEntry):Prop where
 sk:m.κ.key=true
 se:m.ε.key=true
 len:es.size=m.n
 small:m.n<=1000000000
 nd:es.toList.Pairwise λ x y=>x.key≠y.key
 ent:∀ e∈es.toList,∃ k v,yV m.κ k e.key/\yV m.ε v e.val/\m.f k=some v
 all:∀ k v,m.f k=some v->∃ e∈es.toList,yV m.κ k e.key
section
variable {P:Program} {w:World} {m:MV} {es:Array MapEntry} {clock b:Nat} {T kT eT:TypeId}
theorem OK.found(h:OK m es){k:m.κ.den}{v:Value}(hv:yV m.κ k v)(w:World) :
  (Instr.findNow (descOf m.κ) v es.toList 0=some none/\(∀ e∈es.toList,e.key≠v)/\m.f k=none) \/
  ∃ j e x,Instr.findNow (descOf m.κ) v es.toList 0=some (some (j,e.val))/\es.toList[j]?=some e/\e.key=v/\m.f k=some x/\yV m.ε x e.val:=by
 have hk:∀ e∈es.toList,IsKey (descOf m.κ) e.key:=λ e he=>by
  obtain⟨k',v',h1,_⟩:=h.ent e he;exact h1.isKey h.sk w
 rcases findNow_spec (hv.isKey h.sk w) es.toList 0 hk with ⟨h1,h2⟩|⟨j,e,h1,h2,h3⟩
 .refine .inl ⟨h1,h2,?_⟩;cases hf:m.f k with
  | none=>rfl
  | some x =>
   obtain⟨e,he,hke⟩:=h.all k x hf;exact absurd (hke.inj h.sk hv w) (h2 e he)
 .obtain⟨k',x,k1,k2,k3⟩:=h.ent e (List.mem_of_getElem? h2);have:k'=k:=k1.val h.sk (h3 ▸ hv) w;subst this;exact .inr ⟨j,e,x,by simpa using h1,h2,h3,k3,k2⟩
theorem OK.af(h:OK m es)(hT:P.underlying T=some (.map kT eT))(hk:P.underlying kT=some (descOf m.κ))(hb:w.heap[b]?=some (.map es clock)){z:Value}(hz:(zeroValue eT).run P w = .ok z w)(hzr:yV m.ε m.ε.zero z)
  {k:m.κ.den} {v:Value} (hv:yV m.κ k v) (c:Bool):∃ u,yV m.ε ((m.f k).getD m.ε.zero) u/\(Instr.lookup T (.map (some b)) v c).run P w = .ok (if c then .tuple #[u, .bool (m.f k).isSome] else u) w:=by
 rcases h.found hv w with ⟨h1,h2,h3⟩|⟨j,e,x,h1,h2,h3,h4,h5⟩
 .refine⟨z,by rw[h3];exact hzr,?_⟩;rw[h3];simp[Instr.lookup,b4F hT,b6c hb,run_checkKey hk (hv.isKey h.sk w),run_findKey hk h1,hz,Result.andThen]
 .refine⟨e.val,by rw[h4];exact h5,?_⟩;rw[h4];simp[Instr.lookup,b4F hT,b6c hb,run_checkKey hk (hv.isKey h.sk w),run_findKey hk h1,Result.andThen]
theorem XS{α β:Type}(f:α->Option β)(k:α)(v:β):Mg f k v k=some v:=by simp[Mg]
theorem CT{α β:Type}(f:α->Option β)(k:α)(v:β){x:α}(h:x≠k):Mg f k v x=f x:=by simp[Mg,h]
theorem Mi{α:Type}{R:α->α->Prop}{a b:α}:∀ {l:List α} {j:Nat},l.Pairwise R->l[j]?=some a->(∀ x,R a x->R b x)->(∀ x,R x a->R x b)->(l.set j b).Pairwise R
 | [],j,h,hj,h1,h2=>by simp at hj
 | y::ys,0,h,hj,h1,h2=>by
  simp only[b7j,b3C] at hj;subst hj;obtain⟨k1,k2⟩:=b6u.1 h;exact b6u.2 ⟨λ x hx=>h1 x (k1 x hx),k2⟩
 | y::ys,j+1,h,hj,h1,h2=>by
  obtain⟨k1,k2⟩:=b6u.1 h;simp only[List.getElem?_cons_succ] at hj;refine b6u.2 ⟨λ x hx=>?_,Mi k2 hj h1 h2⟩;rcases List.mem_or_eq_of_mem_set hx with hx|rfl
  .exact k1 x hx
  .exact h2 y (k1 a (b5h hj))
theorem OK.store(h:OK m es)(hT:P.underlying T=some (.map kT eT))(hk:P.underlying kT=some (descOf m.κ))(hb:w.heap[b]?=some (.map es clock))
  {k:m.κ.den} {v:Value} (hv:yV m.κ k v) {x:m.ε.den} {u:Value} (hu:yV m.ε x u) (hn:m.n<1000000000) :
  ∃ es' VC,(Instr.mapUpdate T (.map (some b)) v u).run P w = .ok () { w with heap:=w.heap.setIfInBounds b (.map es' VC) }/\OK ⟨m.κ,m.ε,Mg m.f k x,T9 (m.f k) m.n⟩ es':=by
 have hK:=hv.isKey h.sk w;rcases h.found hv w with ⟨h1,h2,h3⟩|⟨j,e,y,h1,h2,h3,h4,h5⟩
 .refine⟨es.push ⟨v,u,clock⟩,clock+1,?_,?_⟩
  .simp[Instr.mapUpdate,b4F hT,b6c hb,run_checkKey hk hK,run_findKey hk h1,run_setObj_map _ hb,Result.andThen]
  .refine⟨h.sk,h.se,?_,by simp[T9,h3];omega,?_,?_,?_⟩
   .simp[T9,h3,h.len]
   .simp only[b6X];refine List.pairwise_append.2 ⟨h.nd,by simp,λ a ha b' cz=>?_⟩;simp only[b4m] at cz;subst cz;exact h2 a ha
   .intro e he;simp only[b6X,b3H,b4m] at he;rcases he with he|rfl
    .obtain⟨k',v',k1,k2,k3⟩:=h.ent e he;refine⟨k',v',k1,k2,?_⟩;show Mg m.f k x k'=some v';rw[CT _ _ _ (λ e1=>h2 e he ((e1 ▸ k1).inj h.sk hv w))];exact k3
    .exact⟨k,x,hv,hu,XS _ _ _⟩
   .intro k' v' hf;by_cases hkk:k'=k
    .exact⟨⟨v,u,clock⟩,by simp,by rw[hkk];exact hv⟩
    .have hf':m.f k'=some v':=by rw[<-CT m.f k x hkk];exact hf
     obtain⟨e,he,hke⟩:=h.all k' v' hf';exact⟨e,by simp only[b6X,b3H];exact .inl he,hke⟩
 .have hj:es[j]?=some e:=by simpa using h2
  have a0V:(es.modify j (λ e'=>{ e' with key:=v,val:=u })).toList=es.toList.set j { e with key:=v,val:=u }:=by
   rw[Array.toList_modify];apply b6y;intro i;simp only[List.getElem?_modify,b6z];by_cases EM:j=i
   .subst EM;have hl:=(b4B.1 h2).1;simp only[b4n,b4n hl];rw[h2];rfl
   .simp[EM]
  refine⟨es.modify j (λ e'=>{ e' with key:=v,val:=u }),clock,?_,?_⟩
  .simp[Instr.mapUpdate,b4F hT,b6c hb,run_checkKey hk hK,run_findKey hk h1,hj,h3,run_keyThatStays hK,run_setObj_map _ hb,Result.andThen]
  .have oth:∀ x'∈es.toList.set j { e with key:=v,val:=u },x'={ e with key:=v,val:=u }\/(x'∈es.toList/\x'.key≠v):=by
    intro x' hx;obtain⟨i,hi,ex⟩:=b6o hx;rw[List.getElem_set] at ex;split at ex
    .exact .inl ex.symm
    .rename_i eZ;have oe:i<es.toList.length:=by simpa using hi
     refine .inr ⟨ex ▸ b4Z oe,λ hxv=>?_⟩;have YW:j<es.toList.length:=(b4B.1 h2).1;have hje:es.toList[j]=e:=(b4B.1 h2).2;have hpw:=List.pairwise_iff_getElem.1 h.nd;rcases Nat.lt_or_gt_of_ne eZ with hl|hl
     .exact hpw j i YW oe hl (by rw[hje,ex,h3,hxv])
     .exact hpw i j oe YW hl (by rw[hje,ex,h3,hxv])
   refine⟨h.sk,h.se,?_,by simp[T9,h4];omega,?_,?_,?_⟩
   .simp[T9,h4,h.len]
   .rw[a0V];exact Mi h.nd h2 (λ x' hx=>by rw[<-h3];exact hx) (λ x' hx=>by rw[<-h3];exact hx)
   .intro e' EK;rw[a0V] at EK;rcases oth e' EK with rfl|⟨he,eZ⟩
    .exact⟨k,x,hv,hu,XS _ _ _⟩
    .obtain⟨k',v',k1,k2,k3⟩:=h.ent e' he;refine⟨k',v',k1,k2,?_⟩;show Mg m.f k x k'=some v';rw[CT _ _ _ (λ e1=>eZ ((e1 ▸ k1).inj h.sk hv w))];exact k3
   .intro k' v' hf;by_cases hkk:k'=k
    .refine⟨{ e with key:=v,val:=u },?_,(show k'=k from hkk).symm ▸ hv⟩;rw[a0V];exact List.mem_iff_getElem.2 ⟨j,by simpa using (List.getElem?_eq_some_iff.1 h2).1,by simp⟩
    .have hf':m.f k'=some v':=by rw[<-CT m.f k x hkk];exact hf
     obtain⟨e',EK,hke⟩:=h.all k' v' hf';refine⟨e',?_,hke⟩;rw[a0V];obtain⟨i,hi,ex⟩:=b6o EK;have EM:j≠i:=by
      intro e1;subst e1;have hje:es.toList[j]=e:=(b4B.1 h2).2;have:e'=e:=ex ▸ hje;subst this;exact hkk ((h3 ▸ hke).val h.sk hv w)
     exact List.mem_iff_getElem.2 ⟨i,by simpa using hi,by rw[List.getElem_set_ne EM];exact ex⟩
end
end Go.Proofs.YtmjfpcajohhbeaaGreatDoor

namespace Go.Proofs.YtmjfpcajohhbeaaGreatDoor
def aV{α β:Type}(R:α->β->Prop):List α->List β->Prop
 | [],[]=>True
 | a::Z9,b::bs=>R a b/\aV R Z9 bs
 | _,_=>False
theorem aV.length{α β:Type}{R:α->β->Prop}:∀ {Z9:List α} {bs:List β},aV R Z9 bs->Z9.length=bs.length
 | [],[],_=>rfl
 | _::_,_::_,h=>by simp[aV.length h.2]
 | [],_::_,h=>h.elim
 | _::_,[],h=>h.elim
theorem aV.imp{α β:Type}{R R':α->β->Prop}:∀ {Z9:List α} {bs:List β},aV R Z9 bs->(∀ a b,a∈Z9->R a b->R' a b)->aV R' Z9 bs
 | [],[],_,_=>trivial
 | _::_,_::_,h,k=>⟨k _ _ (by simp) h.1,aV.imp h.2 λ a b ha=>k a b (by simp[ha])⟩
 | [],_::_,h,_=>h.elim
 | _::_,[],h,_=>h.elim
theorem aV.at_{α β:Type}{R:α->β->Prop}:∀ {Z9:List α} {bs:List β},aV R Z9 bs->∀ (i:Nat) a,Z9[i]?=some a->∃ b,bs[i]?=some b/\R a b
 | [],[],_,i,a,h=>by simp at h
 | _::_,b::_,h,0,a,hi=>by simp at hi;subst hi;exact⟨b,rfl,h.1⟩
 | _::_,_::_,h,i+1,a,hi=>by simpa using aV.at_ h.2 i a (by simpa using hi)
 | [],_::_,h,_,_,_=>h.elim
 | _::_,[],h,_,_,_=>h.elim
theorem aV.append{α β:Type}{R:α->β->Prop}:∀ {Z9:List α} {bs:List β} {as' bs'},aV R Z9 bs->aV R as' bs'->aV R (Z9++as') (bs++bs')
 | [],[],_,_,_,k=>k
 | _::_,_::_,_,_,h,k=>⟨h.1,aV.append h.2 k⟩
 | [],_::_,_,_,h,_=>h.elim
 | _::_,[],_,_,h,_=>h.elim
theorem aV.take{α β:Type}{R:α->β->Prop}(n:Nat):∀ {Z9:List α} {bs:List β},aV R Z9 bs->aV R (Z9.take n) (bs.take n):=by
 induction n with
 | zero=>intro Z9 bs _;simp[aV]
 | succ n ih =>
  intro Z9 bs h;match Z9,bs,h with
  | [],[],_=>simp[aV]
  | _::_,_::_,h=>exact⟨h.1,ih h.2⟩
theorem aV.drop{α β:Type}{R:α->β->Prop}(n:Nat):∀ {Z9:List α} {bs:List β},aV R Z9 bs->aV R (Z9.drop n) (bs.drop n):=by
 induction n with
 | zero=>intro Z9 bs h;simpa using h
 | succ n ih =>
  intro Z9 bs h;match Z9,bs,h with
  | [],[],_=>simp[aV]
  | _::_,_::_,h=>exact ih h.2
theorem aV.ej{α β γ:Type}{R:γ->β->Prop}(f:α->γ):∀ {Z9:List α} {bs:List β},aV (λ a b=>R (f a) b) Z9 bs->aV R (Z9.map f) bs
 | [],[],_=>trivial
 | _::_,_::_,h=>⟨h.1,aV.ej f h.2⟩
 | [],_::_,h=>h.elim
 | _::_,[],h=>h.elim
theorem aV.of_map{α β γ:Type}{R:γ->β->Prop}(f:α->γ):∀ {Z9:List α} {bs:List β},aV R (Z9.map f) bs->aV (λ a b=>R (f a) b) Z9 bs
 | [],[],_=>trivial
 | _::_,_::_,h=>⟨h.1,aV.of_map f h.2⟩
 | [],_::_,h=>h.elim
 | _::_,[],h=>h.elim
theorem dq.dI{w:World}{S:Nat->Prop}:∀ {vs:List TV} {cs:List Value},dq w S (vs.map TV.aQ) cs↔aV (λ v x=>Rd w S v.aQ [x]) vs cs
 | [],[]=>by simp[dq,aV]
 | [],_::_=>by simp[dq,aV]
 | v::vs,[]=>by simp[dq,aV]
 | v::vs,x::cs=>by
  simp only[b4A,dq,aV];constructor
  .rintro⟨y,r,h1,h2,h3⟩;simp only[b3O] at h1;obtain⟨rfl,rfl⟩:=h1;exact⟨h2,dq.dI.1 h3⟩
  .rintro⟨h1,h2⟩;exact⟨x,cs,rfl,h1,dq.dI.2 h2⟩
structure bE(X:Nat->Prop)(w w':World):Prop where
 os:w'.os=w.os
 tape:w'.tape=w.tape
 output:w'.output=w.output
 size:w.heap.size<=w'.heap.size
 block:∀ b,b<w.heap.size->¬ X b->w'.heap[b]?=w.heap[b]?
theorem bE.refl(X:Nat->Prop)(w:World):bE X w w:=⟨rfl,rfl,rfl,b4r _,λ _ _ _=>rfl⟩
theorem bE.trans{X Y:Nat->Prop}{a b c:World}(h:bE X a b)(k:bE Y b c)(hXY:∀ i,i<a.heap.size->Y i->X i):bE X a c :=
 ⟨k.os.trans h.os,k.tape.trans h.tape,k.output.trans h.output,b5v h.size k.size,
  λ i hi hx=>(k.block i (b3X hi h.size) (λ hy=>hx (hXY i hi hy))).trans (h.block i hi hx)⟩
structure Ctx where
 P:Program
 E:Env
 w0:World
 X:Nat->Prop
 S0:Nat->Prop
 R:Nat->Option Value
 Z:Nat->Prop
 RB:Nat->Option Nat
structure Gh where
 S:Nat->Prop
 η:Nat->Value
 φ:Nat->List Nat
def St(c:Ctx)(S:Nat->Prop)(b:Nat):Prop:=S b\/(b<c.w0.heap.size/\¬ c.X b/\¬ c.Z b)
def ew:Value->Option Nat
 | .pointer (some a)=>some a.block
 | .slice (some a) _ _=>some a.block
 | .map (some b)=>some b
 | _=>none
def eK(w:World)(S:Nat->Prop)(v:TV)(x:Value):Prop :=
 match v with
 | ⟨.st s,y⟩=>∃ cs,x = .agg cs.toArray/\Rd w S (s.aQ y) cs
 | v=>Rd w S v.aQ [x]
def Mo(w:World)(S:Nat->Prop):Arg->Value->Prop
 | .val v,x=>eK w S v x
 | .ref v,x=>∃ b o cs,x = .pointer (some ⟨b,o,none⟩)/\b<w.heap.size/\ct w b o cs/\Rd w S v.aQ cs
 | .fn f,x=>x = .func (.func f) #[] #[]
 | .di _,_=>False
 | .own _,_=>False
 | .box _,_=>False
def Ih(w:World)(S:Nat->Prop):List TV->Value->Prop
 | [v],x=>eK w S v x
 | vs,x=>∃ l,x = .tuple l.toArray/\aV (eK w S) vs l
def Gok(w:World)(S:Nat->Prop):Prop:=∀ g∈a3H,S g/\∃ m,w.cell? ⟨g,0,none⟩=some (.int .i64 m)
def yU(w:World)(S:Nat->Prop):Prop:=(∀ b,S b->b<w.heap.size)/\Gok w S
theorem Gok.mono{w w':World}{S S':Nat->Prop}(h:Gok w S)(hS:∀ b,S b->S' b)(hw:∀ b,S b->w'.heap[b]?=w.heap[b]?):Gok w' S':=λ g hg=>by
 obtain⟨h1,m,h2⟩:=h g hg;exact⟨hS g h1,m,(b6h (a:=⟨g,0,none⟩) (hw g h1)).trans h2⟩
def OL(P:Program)(f:FuncId)(args:List Arg)(post:List TV->Prop):Prop :=
 ∀ (w:World) (S:Nat->Prop) (cI:List Value),yU w S->aV (Mo w S) args cI ->
  Calls P f cI.toArray w λ e w'=>∃ x S' res,e = .returned x/\post res/\bE (λ _=>False) w w'/\(∀ b,b<w.heap.size->(S' b↔S b))/\(∀ b,S' b->b<w'.heap.size)/\Ih w' S' res x
def jQ (P:Program) (f:FuncId):Prop:=∃ fn,P.funcs[f]?=some fn/\fn.body.isNone=false/\(fn.name == "runtime.NumGoroutine")=false
def J7(P:Program)(f:FuncId)(gl:List Arg):(ps:List Ty)->(r:Ty)->FN ps r->List Arg->Prop
 | [],r,F,acc=>F.1->jQ P f/\OL P f (acc++gl) (·=[⟨r,F.2⟩])
 | t::ts,r,F,acc=>∀ x,J7 P f gl ts r (F x) (acc++[.val ⟨t,x⟩])
def VU(c:Ctx)(S:Nat->Prop)(w:World):Arg->Value->Prop
 | .val v,x=>eK w S v x
 | .ref v,x=>∃ b o cs,x = .pointer (some ⟨b,o,none⟩)/\St c S b/\ct w b o cs/\Rd w S v.aQ cs
 | .fn f,x=>x = .func (.func f) #[] #[]
 | .di _,_=>False
 | .own _,_=>False
 | .box _,_=>False
def C1(c:Ctx)(G:Gh)(lk:Nat->Option aD)(w:World):AV->Value->Prop
 | .any,_=>True
 | .eh,x=>x=undef
 | .aI v,x=>v.τ.agg=false/\Rd w G.S v.aQ [x]
 | .nil,x=>x = .slice none 0 0
 | .dc v,x=>∃ b o cs,x = .pointer (some ⟨b,o,none⟩)/\St c G.S b/\ct w b o cs/\Rd w G.S v.aQ cs
 | .ptr id off,x=>∃ b,G.η id = .pointer (some ⟨b,0,none⟩)/\x = .pointer (some ⟨b,off,none⟩)/\fZ (lk id)=true
 | .row id,x=>x=G.η id/\isRow (lk id)=true/\∃ a n m,x = .slice a n m
 | .eB id i off,x=>∃ b n cap e τ xs,G.η id = .slice (some ⟨b,0,none⟩) n cap/\lk id=some (.row e τ xs)/\i<xs.length/\x = .pointer (some ⟨b,i * τ.size+off,none⟩)
 | .fn f,x=>x = .func (.func f) #[] #[]
 | .aw id,x=>cx (lk id)=true/\∃ l,G.η id = .tuple (x::l).toArray/\∃ a n m,x = .slice a n m
 | .sub id i off sz,x=>cx (lk id)=true/\∃ a n cap l,G.η id = .tuple (.slice a n cap::l).toArray/\i<n/\l[i * sz+off]?=some x/\∃ a n m,x = .slice a n m
 | .eU id i off sz,x=>cx (lk id)=true/\∃ b n cap l,G.η id = .tuple (.slice (some ⟨b,0,none⟩) n cap::l).toArray/\i<n/\x = .pointer (some ⟨b,i * sz+off,none⟩)
 | .iC v,x=>∃ f gl l,x = .func (.func f) #[] l.toArray/\J7 c.P f gl v.ps v.r v.F []/\aV (VU c G.S w) gl l
 | .mp id,x=>x=G.η id/\NL (lk id)=true/\∃ b,x = .map (some b)
 | .agg _,_=>False
 | .iR _,_=>False
 | .di ..,_=>False
def TR(c:Ctx)(G:Gh)(lk:Nat->Option aD)(w:World):AV->Value->Prop
 | .any,_=>True
 | .aI v,x=>eK w G.S v x
 | .aw id,x=>C1 c G lk w (.aw id) x
 | .dc v,x=>C1 c G lk w (.dc v) x
 | .agg cs,x=>∃ l,x = .agg l.toArray/\aV (C1 c G lk w) cs l
 | _,_=>False
def CR(c:Ctx)(G:Gh)(lk:Nat->Option aD)(w:World):AV->Value->Prop
 | .aI v,x=>eK w G.S v x
 | .agg cs,x=>∃ l,x = .agg l.toArray/\aV (C1 c G lk w) cs l
 | v,x=>C1 c G lk w v x
def VR(c:Ctx)(G:Gh)(lk:Nat->Option aD)(w:World):AV->Value->Prop
 | .aI v,x=>eK w G.S v x
 | .agg cs,x=>∃ l,x = .agg l.toArray/\aV (C1 c G lk w) cs l
 | .iR vs,x=>∃ l,x = .tuple l.toArray/\aV (TR c G lk w) vs l
 | .di f cs,x=>∃ l,x = .func (.func f) #[] l.toArray/\aV (CR c G lk w) cs l
 | v,x=>C1 c G lk w v x
def OR(c:Ctx)(G:Gh)(lk:Nat->Option aD)(w:World)(id:Nat):aD->Prop
 | .box cs=>∃ b l t,G.η id = .pointer (some ⟨b,0,none⟩)/\w.heap[b]?=some (.cells l.toArray t (0,0))/\aV (C1 c G lk w) cs l
 | .row e τ xs=>∃ l,w.ownsRow 0 e τ.size (G.η id) xs.length l/\dT w G.S (xs.map τ.aQ) l/\xs.length<=140737488355328
 | .aw τ xs=>True
 | .map m=>∃ b es clock,G.η id = .map (some b)/\w.heap[b]?=some (.map es clock)/\OK m es
def il(w:World)(η:Value)(τ:Ty)(xs:List τ.den)(fp:List Nat):Prop :=
 ∃ v l a cap,η = .tuple (v::l).toArray/\v = .slice a xs.length cap/\xs.length<=cap/\cap<=maxLen/\xs.length<=140737488355328 /\
  ((xs=[]/\(a=none/\cap=0)/\fp=[])\/∃ b f t,a=some ⟨b,0,none⟩/\fp=b::f/\w.heap[b]?=some (.cells l.toArray t (0,0))/\l.length=cap * τ.size/\bR w (xs.map τ.aQ) l f)
structure Ms(c:Ctx)(G:Gh)(lk:Nat->Option aD)(w:World):Prop where
 tr:∀ id τ xs,lk id=some (.aw τ xs)->il w (G.η id) τ xs (G.φ id)
 nd:∀ id τ xs,lk id=some (.aw τ xs)->(G.φ id).Nodup
 pl:∀ id τ xs b,lk id=some (.aw τ xs)->b∈G.φ id->(c.w0.heap.size<=b\/c.X b)/\¬ G.S b/\b<w.heap.size/\∀ i o,lk i=some o->ew (G.η i)≠some b
 ap:∀ id dx τ bj xs cV b,lk id=some (.aw τ xs)->lk dx=some (.aw bj cV)->b∈G.φ id->b∈G.φ dx->id=dx
def XGk(c:Ctx):Prop:=(∀ b,c.X b->b<c.w0.heap.size)/\∀ g∈a3H,c.S0 g/\¬ c.X g/\g<c.w0.heap.size/\∃ m,c.w0.cell? ⟨g,0,none⟩=some (.int .i64 m)
structure bw(c:Ctx)(G:Gh)(sl:Nat->AV)(n:Nat)(lk:Nat->Option aD)(a:Act)(w:World):Prop where
 defers:a.defers=[]
 size:a.tmps.size=n
 aR:bE c.X c.w0 w
 jP:XGk c
 eu:∀ b,b<c.w0.heap.size->¬ c.X b->(G.S b↔c.S0 b)
 sX:∀ b,c.S0 b->G.S b
 dH:∀ b,G.S b->b<w.heap.size
 aB:∀ i,VR c G lk w (sl i) (a.tmps.getD i undef)
 aN:∀ id o,lk id=some o->OR c G lk w id o
 place:∀ id o b,lk id=some o->ew (G.η id)=some b->(c.w0.heap.size<=b\/c.X b)/\¬ G.S b/\b<w.heap.size
 apart:∀ id dx o o' b,lk id=some o->lk dx=some o'->ew (G.η id)=some b->ew (G.η dx)=some b->id=dx
 aP:Ms c G lk w
 root:∀ id v,c.R id=some v->cx (lk id)=true->∃ l,G.η id = .tuple (v::l).toArray
 iP:∀ id v,c.R id=some v->50<=id/\id<100
 dw:∀ id b,c.RB id=some b->fZ (lk id)=true->G.η id = .pointer (some ⟨b,0,none⟩)
 fh:∀ id b,c.RB id=some b->400000<=id
theorem bw.sOk{c:Ctx}{G:Gh}{sl:Nat->AV}{n:Nat}{lk:Nat->Option aD}{a:Act}{w:World}(h:bw c G sl n lk a w):yU w G.S:=⟨h.dH,λ g hg=>by
 obtain⟨h1,h2,h3,m,h4⟩:=h.jP.2 g hg;exact⟨h.sX g h1,m,(b6h (a:=⟨g,0,none⟩) (h.aR.block g h3 h2)).trans h4⟩⟩
theorem bw.a7m{c:Ctx}{G:Gh}{sl:Nat->AV}{n:Nat}{lk:Nat->Option aD}{a:Act}{w:World}(h:bw c G sl n lk a w){fp:List Nat}(hn:∀ b∈fp,¬ G.S b):Gok w (λ b=>b<w.heap.size/\b∉fp) :=
 h.sOk.2.mono (λ b hb=>⟨h.dH b hb,λ q=>hn b q hb⟩) λ _ _=>rfl
def ah.sl(s:ah)(i:Nat):AV:=s.aB.getD i .any
def Inv(c:Ctx)(G:Gh)(s:ah)(a:Act)(w:World):Prop:=bw c G s.sl s.aB.length s.af a w
theorem uY{o:Option aD}(h:isRow o=true):cx o=false:=by
 match o,h with
 | some (.row ..),_=>rfl
theorem Mf{o:Option aD}(h:NL o=true):cx o=false:=by
 match o,h with
 | some (.map _),_=>rfl
def eF(o o':Option aD):Prop :=
 (fZ o=true->fZ o'=true)/\(∀ e τ xs,o=some (.row e τ xs)->∃ e' cV,o'=some (.row e' τ cV)/\xs.length<=cV.length)/\(cx o=true->cx o'=true)/\(NL o=true->NL o'=true)
theorem eF.refl(o:Option aD):eF o o:=⟨id,λ e τ xs h=>⟨e,xs,h,b4r _⟩,id,id⟩
theorem eF.isRow{o o':Option aD}(h:eF o o')(hr:isRow o=true):YtmjfpcajohhbeaaGreatDoor.isRow o'=true:=by
 match o,hr with
 | some (.row e τ xs),_ =>
  obtain⟨e',cV,h1,_⟩:=h.2.1 e τ xs rfl;rw[h1];rfl
section
variable {c:Ctx} {G G':Gh} {lk lk':Nat->Option aD} {w w':World}
theorem eK.mono{v:TV}{x:Value}(h:eK w G.S v x)(hS:∀ b,G.S b->G'.S b)(hw:∀ b,G.S b->w'.heap[b]?=w.heap[b]?):eK w' G'.S v x:=by
 obtain⟨τ,y⟩:=v;cases τ with
 | st s =>
  obtain⟨cs,h1,h2⟩:=h;exact⟨cs,h1,Rd.aR hS hw _ h2⟩
 | _=>exact Rd.aR hS hw _ h
theorem VU.mono{S S':Nat->Prop}{v:Arg}{x:Value}(h:VU c S w v x)(hS:∀ b,S b->S' b)(hw:∀ b,St c S b->w'.heap[b]?=w.heap[b]?):VU c S' w' v x:=by
 cases v with
 | val v=>exact eK.mono (G:=⟨S,λ _=>undef,λ _=>[]⟩) (G':=⟨S',λ _=>undef,λ _=>[]⟩) h hS (λ b hb=>hw b (.inl hb))
 | ref v =>
  obtain⟨b,o,cs,h1,h2,h3,h4⟩:=h;exact⟨b,o,cs,h1,h2.imp (hS b) id,h3.aR (hw b h2),Rd.aR hS (λ b hb=>hw b (.inl hb)) _ h4⟩
 | fn f=>exact h
 | di v=>exact h
 | own v=>exact h
 | box k=>exact h
theorem C1.mono{v:AV}{x:Value}(h:C1 c G lk w v x)(hk:∀ id,v.refs id=true->eF (lk id) (lk' id)/\G'.η id=G.η id)
  (hS:∀ b,G.S b->G'.S b) (hw:∀ b,St c G.S b->w'.heap[b]?=w.heap[b]?):C1 c G' lk' w' v x:=by
 have hw':∀ b,G.S b->w'.heap[b]?=w.heap[b]?:=λ b hb=>hw b (.inl hb);cases v with
 | any=>trivial
 | eh=>exact h
 | aI v=>exact⟨h.1,Rd.aR hS hw' _ h.2⟩
 | nil=>exact h
 | dc v =>
  obtain⟨b,o,cs,h1,h2,h3,h4⟩:=h;exact⟨b,o,cs,h1,h2.imp (hS b) id,h3.aR (hw b h2),Rd.aR hS hw' _ h4⟩
 | ptr id off =>
  obtain⟨b,h1,h2,h3⟩:=h;obtain⟨k1,k2⟩:=hk id (by simp[AV.refs]);exact⟨b,k2.trans h1,h2,k1.1 h3⟩
 | row id =>
  obtain⟨h1,h2,h3⟩:=h;obtain⟨k1,k2⟩:=hk id (by simp[AV.refs]);exact⟨h1.trans k2.symm,k1.isRow h2,h3⟩
 | eB id i off =>
  obtain⟨b,n,cap,e,τ,xs,h1,h2,h3,h4⟩:=h;obtain⟨k1,k2⟩:=hk id (by simp[AV.refs]);obtain⟨e',cV,k3,k4⟩:=k1.2.1 e τ xs h2;exact⟨b,n,cap,e',τ,cV,k2.trans h1,k3,by omega,h4⟩
 | fn f=>exact h
 | aw id =>
  obtain⟨h1,l,h2,h3⟩:=h;obtain⟨k1,k2⟩:=hk id (by simp[AV.refs]);exact⟨k1.2.2.1 h1,l,k2.trans h2,h3⟩
 | sub id i off sz =>
  obtain⟨h1,a,n,cap,l,h2,h3⟩:=h;obtain⟨k1,k2⟩:=hk id (by simp[AV.refs]);exact⟨k1.2.2.1 h1,a,n,cap,l,k2.trans h2,h3⟩
 | eU id i off sz =>
  obtain⟨h1,b,n,cap,l,h2,h3⟩:=h;obtain⟨k1,k2⟩:=hk id (by simp[AV.refs]);exact⟨k1.2.2.1 h1,b,n,cap,l,k2.trans h2,h3⟩
 | iC v =>
  obtain⟨f,gl,l,h1,h2,h3⟩:=h;exact⟨f,gl,l,h1,h2,h3.imp λ u y _ hy=>hy.mono hS hw⟩
 | mp id =>
  obtain⟨h1,h2,h3⟩:=h;obtain⟨k1,k2⟩:=hk id (by simp[AV.refs]);exact⟨h1.trans k2.symm,k1.2.2.2 h2,h3⟩
 | agg cs=>exact h
 | iR vs=>exact h
 | di f cs=>exact h
theorem mX{id:Nat}:∀ {cs:List AV} {v:AV},v∈cs->v.refs id=true->AV.gf id cs=true
 | u::r,v,hm,hv=>by
  simp only[AV.gf];rcases b3Z.1 hm with rfl|h
  .rw[hv]
  .split
   .rfl
   .exact mX h hv
theorem CR.mono{v:AV}{x:Value}(h:CR c G lk w v x)(hk:∀ id,v.refs id=true->eF (lk id) (lk' id)/\G'.η id=G.η id)
  (hS:∀ b,G.S b->G'.S b) (hw:∀ b,St c G.S b->w'.heap[b]?=w.heap[b]?):CR c G' lk' w' v x:=by
 cases v with
 | aI v=>exact eK.mono h hS (λ b hb=>hw b (.inl hb))
 | agg cs =>
  obtain⟨l,h1,h2⟩:=h;exact⟨l,h1,h2.imp λ u y hu hy=>hy.mono (λ id aX=>hk id (by simp only[AV.refs];exact mX hu aX)) hS hw⟩
 | any=>trivial
 | eh=>exact h
 | nil=>exact C1.mono (v := .nil) h hk hS hw
 | dc v=>exact C1.mono (v := .dc v) h hk hS hw
 | ptr i o=>exact C1.mono (v := .ptr i o) h hk hS hw
 | row i=>exact C1.mono (v := .row i) h hk hS hw
 | eB i k o=>exact C1.mono (v := .eB i k o) h hk hS hw
 | fn f=>exact C1.mono (v := .fn f) h hk hS hw
 | aw i=>exact C1.mono (v := .aw i) h hk hS hw
 | sub i k o z=>exact C1.mono (v := .sub i k o z) h hk hS hw
 | eU i k o z=>exact C1.mono (v := .eU i k o z) h hk hS hw
 | iC v=>exact C1.mono (v := .iC v) h hk hS hw
 | mp i=>exact C1.mono (v := .mp i) h hk hS hw
 | iR _=>exact h
 | di _ _=>exact h
theorem VR.mono{v:AV}{x:Value}(h:VR c G lk w v x)(hk:∀ id,v.refs id=true->eF (lk id) (lk' id)/\G'.η id=G.η id)
  (hS:∀ b,G.S b->G'.S b) (hw:∀ b,St c G.S b->w'.heap[b]?=w.heap[b]?):VR c G' lk' w' v x:=by
 have hw':∀ b,G.S b->w'.heap[b]?=w.heap[b]?:=λ b hb=>hw b (.inl hb);cases v with
 | aI v=>exact eK.mono h hS hw'
 | agg cs =>
  obtain⟨l,h1,h2⟩:=h;exact⟨l,h1,h2.imp λ u y hu hy=>hy.mono (λ id aX=>hk id (by simp only[AV.refs];exact mX hu aX)) hS hw⟩
 | iR vs =>
  obtain⟨l,h1,h2⟩:=h;refine⟨l,h1,h2.imp λ u y hu hy=>?_⟩;have l9:∀ id,u.refs id=true->eF (lk id) (lk' id)/\G'.η id=G.η id:=λ id aX=>hk id (by simp only[AV.refs];exact mX hu aX);cases u with
  | any=>trivial
  | aI v=>exact eK.mono hy hS hw'
  | aw i=>exact C1.mono (v := .aw i) hy l9 hS hw
  | dc v=>exact C1.mono (v := .dc v) hy l9 hS hw
  | agg cs =>
   obtain⟨l,h1,h2⟩:=hy;exact⟨l,h1,h2.imp λ u y hu hy=>hy.mono (λ id aX=>l9 id (by simp only[AV.refs];exact mX hu aX)) hS hw⟩
  | _=>exact hy.elim
 | eh=>trivial
 | any=>trivial
 | nil=>exact C1.mono (v := .nil) h hk hS hw
 | dc v=>exact C1.mono (v := .dc v) h hk hS hw
 | ptr i o=>exact C1.mono (v := .ptr i o) h hk hS hw
 | row i=>exact C1.mono (v := .row i) h hk hS hw
 | eB i k o=>exact C1.mono (v := .eB i k o) h hk hS hw
 | fn f=>exact C1.mono (v := .fn f) h hk hS hw
 | aw i=>exact C1.mono (v := .aw i) h hk hS hw
 | sub i k o z=>exact C1.mono (v := .sub i k o z) h hk hS hw
 | eU i k o z=>exact C1.mono (v := .eU i k o z) h hk hS hw
 | iC v=>exact C1.mono (v := .iC v) h hk hS hw
 | mp i=>exact C1.mono (v := .mp i) h hk hS hw
 | di f cs =>
  obtain⟨l,h1,h2⟩:=h;exact⟨l,h1,h2.imp λ u y hu hy=>hy.mono (λ id aX=>hk id (by simp only[AV.refs];exact mX hu aX)) hS hw⟩
def aD.refs(id:Nat):aD->Bool
 | .box cs=>AV.gf id cs
 | .row .. => false
 | .aw .. => false
 | .map .. => false
theorem uC{v:Value}{e:TypeId}{size n:Nat}{l:List Value}(h:w.ownsRow 0 e size v n l):v.ownBlock=ew v:=by
 rcases h.2 with ⟨rfl,_⟩|⟨g,cap,cur,rfl,_⟩<;>rfl
theorem Mh{e:TypeId}{size n:Nat}{v:Value}{l:List Value}(h:w.ownsRow 0 e size v n l)(hb:∀ b,ew v=some b->w'.heap[b]?=w.heap[b]?):w'.ownsRow 0 e size v n l:=by
 refine⟨h.1,h.2.imp id ?_⟩;rintro⟨g,cap,cur,rfl,h1,h2,h3⟩;exact⟨g,cap,cur,rfl,h1,by rw[hb g rfl];exact h2,h3⟩
theorem OR.mono{id:Nat}{o:aD}(h:OR c G lk w id o)(eH:G'.η id=G.η id)(hb:∀ b,ew (G.η id)=some b->w'.heap[b]?=w.heap[b]?)
  (hk:∀ j,o.refs j=true->eF (lk j) (lk' j)/\G'.η j=G.η j) (hS:∀ b,G.S b->G'.S b) (hw:∀ b,St c G.S b->w'.heap[b]?=w.heap[b]?):OR c G' lk' w' id o:=by
 cases o with
 | box cs =>
  obtain⟨b,l,t,h1,h2,h3⟩:=h;refine⟨b,l,t,eH.trans h1,?_,h3.imp λ u y hu hy=>hy.mono (λ j hj=>hk j (mX hu hj)) hS hw⟩;rw[hb b (by rw[h1];rfl)];exact h2
 | row e τ xs =>
  obtain⟨l,h1,h2,h3⟩:=h;refine⟨l,?_,dT.aR hS (λ b hb=>hw b (.inl hb)) _ h2,h3⟩;rw[eH];exact Mh h1 hb
 | aw τ xs=>trivial
 | map m =>
  obtain⟨b,es,clock,h1,h2,h3⟩:=h;exact⟨b,es,clock,eH.trans h1,by rw[hb b (by rw[h1];rfl)];exact h2,h3⟩
end
theorem il.aR{w w':World}{η:Value}{τ:Ty}{xs:List τ.den}{fp:List Nat}(h:il w η τ xs fp)(hw:∀ b∈fp,w'.heap[b]?=w.heap[b]?):il w' η τ xs fp:=by
 obtain⟨v,l,a,cap,h1,h2,h3,h4,h5,h6⟩:=h;refine⟨v,l,a,cap,h1,h2,h3,h4,h5,h6.imp id ?_⟩;rintro⟨b,f,t,k1,rfl,k2,k0,k3⟩;exact⟨b,f,t,k1,rfl,by rw[hw b (by simp)];exact k2,k0,bR.aR _ k3 λ b hb=>hw b (by simp[hb])⟩
theorem bw.world{c:Ctx}{G:Gh}{sl:Nat->AV}{n:Nat}{lk:Nat->Option aD}{a:Act}{w w':World}{S':Nat->Prop}(h:bw c G sl n lk a w)
  (fY:bE (λ b=>c.w0.heap.size<=b\/c.X b) w w') (hS:∀ b,G.S b->S' b) (a7n:∀ b,b<w.heap.size->(S' b↔G.S b)) (hX:∀ b,c.S0 b->S' b) (hLt:∀ b,S' b->b<w'.heap.size)
  (hw:∀ b,St c G.S b->w'.heap[b]?=w.heap[b]?) (l5:∀ id o b,lk id=some o->ew (G.η id)=some b->w'.heap[b]?=w.heap[b]?) (HO:∀ id τ xs b,lk id=some (.aw τ xs)->b∈G.φ id->w'.heap[b]?=w.heap[b]?) :
  bw c ⟨S',G.η,G.φ⟩ sl n lk a w' where
 defers:=h.defers
 size:=h.size
 aR:=h.aR.trans fY λ i hi hy=>hy.elim (λ h=>by omega) id
 jP:=h.jP
 eu b hb hx:=(a7n b (b3X hb h.aR.size)).trans (h.eu b hb hx)
 sX:=hX
 dH:=hLt
 aB i:=(h.aB i).mono (λ id _=>⟨eF.refl _,rfl⟩) hS hw
 aN id o ho:=(h.aN id o ho).mono rfl (λ b hb=>l5 id o b ho hb) (λ j _=>⟨eF.refl _,rfl⟩) hS hw
 place id o b ho hb:=by
  obtain⟨h1,h2,h3⟩:=h.place id o b ho hb;exact⟨h1,λ hs=>h2 ((a7n b h3).1 hs),b3X h3 fY.size⟩
 apart:=h.apart
 aP:={
  tr:=λ id τ xs ht=>(h.aP.tr id τ xs ht).aR λ b hb=>HO id τ xs b ht hb
  nd:=h.aP.nd
  pl:=λ id τ xs b ht hb=>by
   obtain⟨h1,h2,h3,h4⟩:=h.aP.pl id τ xs b ht hb;exact⟨h1,λ hs=>h2 ((a7n b h3).1 hs),b3X h3 fY.size,h4⟩
  ap:=h.aP.ap }
 root:=h.root
 iP:=h.iP
 dw:=h.dw
 fh:=h.fh
theorem bw.drew{c:Ctx}{G:Gh}{sl:Nat->AV}{n:Nat}{lk:Nat->Option aD}{a:Act}{w:World}(h:bw c G sl n lk a w):bw c G sl n lk a w.drew :=
 h.world (S':=G.S) ⟨rfl,rfl,rfl,b4r _,λ _ _ _=>rfl⟩ (λ _ h=>h) (λ _ _=>b5G) h.sX h.dH (λ _ _=>rfl) (λ _ _ _ _ _=>rfl) (λ _ _ _ _ _ _=>rfl)
def j9(n:Nat)(sl:Nat->AV)(d:Option Nat)(v:AV)(i:Nat):AV:=if d=some i/\i<n then v else sl i
theorem ei(a:Act)(d:Option Nat)(x:Value)(i:Nat):(a.put d x).tmps.getD i undef=if d=some i/\i<a.tmps.size then x else a.tmps.getD i undef:=by
 cases d with
 | none=>simp[Act.put]
 | some d =>
  simp only[Act.put,b3C];by_cases h:d=i
  .subst h;by_cases hl:d<a.tmps.size
   .simp[hl,b4z]
   .simp[hl,b4z,Array.setIfInBounds]
  .simp[h,b4z,b6K]
theorem gN(a:Act)(d:Option Nat)(x:Value):(a.put d x).tmps.size=a.tmps.size:=by cases d<;>simp[Act.put]
theorem jT(a:Act)(d:Option Nat)(x:Value):(a.put d x).defers=a.defers:=by cases d<;>rfl
theorem bw.put{c:Ctx}{G:Gh}{sl:Nat->AV}{n:Nat}{lk:Nat->Option aD}{a:Act}{w:World}(h:bw c G sl n lk a w){d:Option Nat}{v:AV}{x:Value}(hv:VR c G lk w v x) :
  bw c G (j9 n sl d v) n lk (a.put d x) w where
 defers:=(jT _ _ _).trans h.defers
 size:=(gN _ _ _).trans h.size
 aR:=h.aR
 jP:=h.jP
 eu:=h.eu
 sX:=h.sX
 dH:=h.dH
 aB i:=by
  rw[ei,h.size,j9];split
  .exact hv
  .exact h.aB i
 aN:=h.aN
 place:=h.place
 apart:=h.apart
 aP:=h.aP
 root:=h.root
 iP:=h.iP
 dw:=h.dw
 fh:=h.fh
theorem bw.forget{c:Ctx}{G:Gh}{sl sl':Nat->AV}{n:Nat}{lk:Nat->Option aD}{a:Act}{w:World}(h:bw c G sl n lk a w)(hs:∀ i,sl' i=sl i\/sl' i = .any):bw c G sl' n lk a w where
 defers:=h.defers
 size:=h.size
 aR:=h.aR
 jP:=h.jP
 eu:=h.eu
 sX:=h.sX
 dH:=h.dH
 aB i:=by
  rcases hs i with e|e
  .rw[e];exact h.aB i
  .rw[e];trivial
 aN:=h.aN
 place:=h.place
 apart:=h.apart
 aP:=h.aP
 root:=h.root
 iP:=h.iP
 dw:=h.dw
 fh:=h.fh
theorem a2u(id:Nat)(v:AV):v.kill id=v\/v.kill id = .any:=by unfold AV.kill;split<;>simp
theorem Gn(id:Nat)(v:AV):(v.kill id).refs id=false:=by
 unfold AV.kill;split
 .rfl
 .assumption
theorem C1.kill{c:Ctx}{G:Gh}{lk:Nat->Option aD}{w:World}{v:AV}{x:Value}(h:C1 c G lk w v x)(id:Nat):C1 c G lk w (v.kill id) x:=by
 rcases a2u id v with e|e
 .rw[e];exact h
 .rw[e];trivial
theorem JT(id:Nat):∀ cs:List AV,AV.gf id (cs.map (AV.kill id))=false
 | []=>rfl
 | v::r=>by simp only[b4A,AV.gf,Gn];exact JT id r
theorem OR.kill{c:Ctx}{G:Gh}{lk:Nat->Option aD}{w:World}{i:Nat}{o:aD}(h:OR c G lk w i o)(id:Nat):OR c G lk w i (o.kill id):=by
 cases o with
 | box cs =>
  obtain⟨b,l,t,h1,h2,h3⟩:=h;exact⟨b,l,t,h1,h2,aV.ej _ (h3.imp λ u y _ hy=>hy.kill id)⟩
 | row e τ xs=>exact h
 | aw τ xs=>exact h
 | map m=>exact h
theorem Ot(id:Nat)(o:Option aD):eF o (o.map (aD.kill id)):=by
 refine⟨λ h=>?_,λ e τ xs h=>⟨e,xs,by rw[h];rfl,b4r _⟩,λ h=>?_,λ h=>?_⟩
 .match o,h with
  | some (.box cs),_=>rfl
 .match o,h with
  | some (.aw τ xs),_=>rfl
 .match o,h with
  | some (.map m),_=>rfl
theorem jE{id:Nat}{o:Option aD}{τ:Ty}{xs:List τ.den}(h:o.map (aD.kill id)=some (.aw τ xs)):o=some (.aw τ xs):=by
 match o,h with
 | some (.aw bj cV),h=>exact h
 | some (.box _),h=>cases h
 | some (.row ..),h=>cases h
theorem Ms.sub{c:Ctx}{G:Gh}{lk lk':Nat->Option aD}{w:World}(h:Ms c G lk w)(ht:∀ id τ xs,lk' id=some (.aw τ xs)->lk id=some (.aw τ xs))(ho:∀ i o,lk' i=some o->∃ o',lk i=some o'):Ms c G lk' w where
 tr id τ xs k:=h.tr id τ xs (ht id τ xs k)
 nd id τ xs k:=h.nd id τ xs (ht id τ xs k)
 pl id τ xs b k hb:=by
  obtain⟨h1,h2,h3,h4⟩:=h.pl id τ xs b (ht id τ xs k) hb;exact⟨h1,h2,h3,λ i o hi=>(ho i o hi).elim λ o' cN=>h4 i o' cN⟩
 ap id dx τ bj xs cV b k k':=h.ap id dx τ bj xs cV b (ht id τ xs k) (ht dx bj cV k')
theorem bw.cp{c:Ctx}{G:Gh}{sl:Nat->AV}{n:Nat}{lk:Nat->Option aD}{a:Act}{w:World}(h:bw c G sl n lk a w)(id:Nat) :
  bw c G (λ i=>(sl i).kill id) n (λ i=>(lk i).map (aD.kill id)) a w:=by
 have h1:bw c G (λ i=>(sl i).kill id) n lk a w:=h.forget λ i=>a2u id (sl i);exact {
  defers:=h1.defers,size:=h1.size,aR:=h1.aR,jP:=h1.jP,eu:=h1.eu,sX:=h1.sX,dH:=h1.dH
  aB:=λ i=>(h1.aB i).mono (λ j _=>⟨Ot id _,rfl⟩) (λ _ h=>h) (λ _ _=>rfl)
  aN:=λ i o ho=>by
   rw[b4D] at ho;obtain⟨o',cN,rfl⟩:=ho;exact ((h1.aN i o' cN).kill id).mono rfl (λ _ _=>rfl) (λ j _=>⟨Ot id _,rfl⟩) (λ _ h=>h) (λ _ _=>rfl)
  place:=λ i o b ho hb=>by
   rw[b4D] at ho;obtain⟨o',cN,rfl⟩:=ho;exact h1.place i o' b cN hb
  apart:=λ i j o o' b ho cN hb cz=>by
   rw[b4D] at ho cN;obtain⟨p,hp,rfl⟩:=ho;obtain⟨q,hq,rfl⟩:=cN;exact h1.apart i j p q b hp hq hb cz
  aP:=h1.aP.sub (λ i τ xs k=>jE k) (λ i o k=>by
   rw[b4D] at k;obtain⟨p,hp,_⟩:=k;exact⟨p,hp⟩)
  root:=λ i v hr ht=>h1.root i v hr (by
   match hl:lk i,ht with
   | some (.aw ..),_=>rfl
   | some (.box _),ht=>simp[hl,aD.kill,cx] at ht
   | some (.row ..),ht=>simp[hl,aD.kill,cx] at ht
   | none,ht=>simp[hl,cx] at ht)
  iP:=h1.iP
  dw:=λ i v hr ht=>h1.dw i v hr (by
   match hl:lk i,ht with
   | some (.box _),_=>rfl
   | some (.aw ..),ht=>simp[hl,aD.kill,fZ] at ht
   | some (.row ..),ht=>simp[hl,aD.kill,fZ] at ht
   | none,ht=>simp[hl,fZ] at ht)
  fh:=h1.fh }
theorem bw.a8P{c:Ctx}{G:Gh}{sl:Nat->AV}{n:Nat}{lk:Nat->Option aD}{a:Act}{w:World}(h:bw c G sl n lk a w)(id:Nat)
  (hs:∀ i,(sl i).refs id=false) (ho:∀ i o,lk i=some o->i≠id->o.refs id=false):bw c G sl n (λ i=>if i=id then none else lk i) a w:=by
 have e9:∀ j,j≠id->eF (lk j) ((λ i=>if i=id then none else lk i) j):=λ j hj=>by simp only[b3R hj];exact eF.refl _
 exact {
  defers:=h.defers,size:=h.size,aR:=h.aR,jP:=h.jP,eu:=h.eu,sX:=h.sX,dH:=h.dH
  aB:=λ i=>(h.aB i).mono (λ j hj=>⟨e9 j (λ e=>by subst e;rw[hs i] at hj;cases hj),rfl⟩) (λ _ h=>h) (λ _ _=>rfl)
  aN:=λ i o cE=>by
   by_cases hi:i=id
   .simp[hi] at cE
   .simp only[b3R hi] at cE;exact (h.aN i o cE).mono rfl (λ _ _=>rfl) (λ j hj=>⟨e9 j (λ e=>by subst e;rw[ho i o cE hi] at hj;cases hj),rfl⟩) (λ _ h=>h) (λ _ _=>rfl)
  place:=λ i o b cE hb=>by
   by_cases hi:i=id
   .simp[hi] at cE
   .simp only[b3R hi] at cE;exact h.place i o b cE hb
  apart:=λ i j o o' b cE NG hb cz=>by
   by_cases hi:i=id
   .simp[hi] at cE
   .by_cases hj:j=id
    .simp[hj] at NG
    .simp only[b3R hi] at cE;simp only[b3R hj] at NG;exact h.apart i j o o' b cE NG hb cz
  aP:=h.aP.sub (λ i τ xs k=>by
   by_cases hi:i=id
   .simp[hi] at k
   .simpa only[if_neg hi] using k) (λ i o k=>by
   by_cases hi:i=id
   .simp[hi] at k
   .exact⟨o,by simpa only[if_neg hi] using k⟩)
  root:=λ i v hr ht=>h.root i v hr (by
   by_cases hi:i=id
   .simp[hi,cx] at ht
   .simpa only[if_neg hi] using ht)
  iP:=h.iP
  dw:=λ i v hr ht=>h.dw i v hr (by
   by_cases hi:i=id
   .simp[hi,fZ] at ht
   .simpa only[if_neg hi] using ht)
  fh:=h.fh }
theorem bw.newObj{c:Ctx}{G:Gh}{sl:Nat->AV}{n:Nat}{lk:Nat->Option aD}{a:Act}{w:World}(h:bw c G sl n lk a w)(id:Nat)(o:aD)(x:Value)
  (aX:lk id=none) (hs:∀ i,(sl i).refs id=false) (ho:∀ i o,lk i=some o->o.refs id=false) (hor:o.refs id=false)
  (sN:OR c ⟨G.S,λ i=>if i=id then x else G.η i,G.φ⟩ (λ i=>if i=id then some o else lk i) w id o)
  (UA:cx (some o)=false) (bN:fZ (some o)=false\/id<400000) (jw:∀ b,ew x=some b->(c.w0.heap.size<=b\/c.X b)/\¬ G.S b/\b<w.heap.size/\(∀ i o',lk i=some o'->ew (G.η i)≠some b)/\∀ j τ xs,lk j=some (.aw τ xs)->b∉G.φ j) :
  bw c ⟨G.S,λ i=>if i=id then x else G.η i,G.φ⟩ sl n (λ i=>if i=id then some o else lk i) a w:=by
 have e9:∀ j,j≠id->eF (lk j) ((λ i=>if i=id then some o else lk i) j)/\(if j=id then x else G.η j)=G.η j:=λ j hj=>by simp only[b3R hj];exact⟨eF.refl _,U⟩
 exact {
  defers:=h.defers,size:=h.size,aR:=h.aR,jP:=h.jP,eu:=h.eu,sX:=h.sX,dH:=h.dH
  aB:=λ i=>(h.aB i).mono (λ j hj=>e9 j (λ e=>by subst e;rw[hs i] at hj;cases hj)) (λ _ h=>h) (λ _ _=>rfl)
  aN:=λ i o' cE=>by
   by_cases hi:i=id
   .subst hi;simp only[b5y,b3C] at cE;subst cE;exact sN
   .simp only[b3R hi] at cE;exact (h.aN i o' cE).mono (by simp only[b3R hi]) (λ _ _=>rfl) (λ j hj=>e9 j (λ e=>by subst e;rw[ho i o' cE] at hj;cases hj)) (λ _ h=>h) (λ _ _=>rfl)
  place:=λ i o' b cE hb=>by
   by_cases hi:i=id
   .simp only[b4n hi] at hb;obtain⟨h1,h2,h3,_⟩:=jw b hb;exact⟨h1,h2,h3⟩
   .simp only[b3R hi] at cE hb;exact h.place i o' b cE hb
  apart:=λ i j o1 o2 b cE NG hb cz=>by
   by_cases hi:i=id
   .by_cases hj:j=id
    .rw[hi,hj]
    .simp only[b3R hj] at NG cz;simp only[b4n hi] at hb;exact absurd cz ((jw b hb).2.2.2.1 j o2 NG)
   .by_cases hj:j=id
    .simp only[b3R hi] at cE hb;simp only[b4n hj] at cz;exact absurd hb ((jw b cz).2.2.2.1 i o1 cE)
    .simp only[b3R hi] at cE hb;simp only[b3R hj] at NG cz;exact h.apart i j o1 o2 b cE NG hb cz
  aP:=by
   have hold:∀ j τ xs,(if j=id then some o else lk j)=some (.aw τ xs)->j≠id/\lk j=some (.aw τ xs):=λ j τ xs k=>by
    by_cases hj:j=id
    .rw[b4n hj] at k;cases k;cases UA
    .rw[b3R hj] at k;exact⟨hj,k⟩
   exact {
    tr:=λ j τ xs k=>by
     obtain⟨h1,h2⟩:=hold j τ xs k;simp only[b3R h1];exact h.aP.tr j τ xs h2
    nd:=λ j τ xs k=>h.aP.nd j τ xs (hold j τ xs k).2
    pl:=λ j τ xs b k hb=>by
     obtain⟨h1,h2,h3,h4⟩:=h.aP.pl j τ xs b (hold j τ xs k).2 hb;refine⟨h1,h2,h3,λ i p y8=>?_⟩;by_cases hi:i=id
     .simp only[b4n hi];exact λ e=>(jw b e).2.2.2.2 j τ xs (hold j τ xs k).2 hb
     .simp only[b3R hi] at y8 ⊢;exact h4 i p y8
    ap:=λ j j' τ bj xs cV b k k'=>h.aP.ap j j' τ bj xs cV b (hold j τ xs k).2 (hold j' bj cV k').2 }
  root:=λ i v hr ht=>by
   by_cases hi:i=id
   .simp only[b4n hi] at ht;rw[UA] at ht;cases ht
   .simp only[b3R hi] at ht ⊢;exact h.root i v hr ht
  iP:=h.iP
  dw:=λ i v hr ht=>by
   by_cases hi:i=id
   .subst hi;rcases bN with bN|bN
    .simp only[b5y] at ht;rw[bN] at ht;cases ht
    .have:=h.fh i v hr;omega
   .simp only[b3R hi] at ht ⊢;exact h.dw i v hr ht
  fh:=h.fh }
theorem bw.a1h{c:Ctx}{G:Gh}{sl:Nat->AV}{n:Nat}{lk:Nat->Option aD}{a:Act}{w w':World}(h:bw c G sl n lk a w)(id:Nat)(o o':aD)(b:Nat)(aX:lk id=some o)(hb:ew (G.η id)=some b)
  (e9:eF (some o) (some o')) (UA:cx (some o')=false) (hw:∀ k,k≠b->w'.heap[k]?=w.heap[k]?) (hos:w'.os=w.os) (a3R:w'.tape=w.tape) (Z0:w'.output=w.output) (R4:w'.heap.size=w.heap.size)
  (sN:OR c G (λ i=>if i=id then some o' else lk i) w' id o'):bw c G sl n (λ i=>if i=id then some o' else lk i) a w':=by
 obtain⟨hp1,hp2,hp3⟩:=h.place id o b aX hb;have cv:∀ k,St c G.S k->w'.heap[k]?=w.heap[k]?:=λ k hk=>hw k λ e=>by
  subst e;rcases hk with hk|hk
  .exact hp2 hk
  .exact hp1.elim (λ q=>by omega) hk.2.1
 have hs:∀ j,eF (lk j) ((λ i=>if i=id then some o' else lk i) j):=λ j=>by
  by_cases hj:j=id
  .subst hj;simp only[b5y];rw[aX];exact e9
  .simp only[b3R hj];exact eF.refl _
 exact {
  defers:=h.defers,size:=h.size
  aR:=h.aR.trans (Y:=λ k=>c.w0.heap.size<=k\/c.X k) ⟨hos,a3R,Z0,Nat.le_of_eq R4.symm,λ k _ hx=>hw k λ e=>by subst e;exact hx hp1⟩ λ i hi hy=>hy.elim (λ h=>by omega) (λ h=>h)
  jP:=h.jP,eu:=h.eu,sX:=h.sX
  dH:=λ k hk=>by rw[R4];exact h.dH k hk
  aB:=λ i=>(h.aB i).mono (λ j _=>⟨hs j,rfl⟩) (λ _ h=>h) cv
  aN:=λ i p hp=>by
   by_cases hi:i=id
   .subst hi;simp only[b5y,b3C] at hp;subst hp;exact sN
   .simp only[b3R hi] at hp;exact (h.aN i p hp).mono rfl (λ k hk=>hw k λ e=>by subst e;exact hi (h.apart i id p o _ hp aX hk hb)) (λ j _=>⟨hs j,rfl⟩) (λ _ h=>h) cv
  place:=λ i p k hp hk=>by
   rw[R4];by_cases hi:i=id
   .subst hi;exact h.place i o k aX hk
   .simp only[b3R hi] at hp;exact h.place i p k hp hk
  apart:=λ i j p q k hp hq hk l9=>by
   by_cases hi:i=id
   .by_cases hj:j=id
    .rw[hi,hj]
    .simp only[b3R hj] at hq;rw[hi] at hk ⊢;exact h.apart id j o q k aX hq hk l9
   .simp only[b3R hi] at hp;by_cases hj:j=id
    .rw[hj] at l9 ⊢;exact h.apart i id p o k hp aX hk l9
    .simp only[b3R hj] at hq;exact h.apart i j p q k hp hq hk l9
  aP:=by
   have hold:∀ j τ xs,(if j=id then some o' else lk j)=some (.aw τ xs)->lk j=some (.aw τ xs):=λ j τ xs k=>by
    by_cases hj:j=id
    .rw[b4n hj] at k;cases k;cases UA
    .rwa [b3R hj] at k
   exact {
    tr:=λ j τ xs k=>(h.aP.tr j τ xs (hold j τ xs k)).aR λ k' l9=>hw k' λ e=>by
     subst e;exact (h.aP.pl j τ xs _ (hold j τ xs k) l9).2.2.2 id o aX hb
    nd:=λ j τ xs k=>h.aP.nd j τ xs (hold j τ xs k)
    pl:=λ j τ xs b' k cz=>by
     obtain⟨h1,h2,h3,h4⟩:=h.aP.pl j τ xs b' (hold j τ xs k) cz;refine⟨h1,h2,by rw[R4];exact h3,λ i p y8=>?_⟩;by_cases hi:i=id
     .rw[hi];exact h4 id o aX
     .rw[b3R hi] at y8;exact h4 i p y8
    ap:=λ j j' τ bj xs cV b' k k'=>h.aP.ap j j' τ bj xs cV b' (hold j τ xs k) (hold j' bj cV k') }
  root:=λ i v hr ht=>by
   by_cases hi:i=id
   .simp only[b4n hi] at ht;rw[UA] at ht;cases ht
   .simp only[b3R hi] at ht;exact h.root i v hr ht
  iP:=h.iP
  dw:=λ i v hr ht=>by
   by_cases hi:i=id
   .subst hi;simp only[b5y] at ht;refine h.dw i v hr ?_;rw[aX];cases o with
    | box cs=>rfl
    | row e τ xs=>obtain⟨e',cV,q,_⟩:=e9.2.1 e τ xs rfl;rw[q] at ht;cases ht
    | aw τ xs=>have h3:cx (some o')=true:=e9.2.2.1 rfl;rw[UA] at h3;cases h3
    | map m =>
     obtain⟨b1,_,_,k1,_⟩:=h.aN i _ aX;match o',ht with
     | .box cs,_ =>
      obtain⟨b2,_,_,k2,_⟩:=sN;rw[k1] at k2;cases k2
   .simp only[b3R hi] at ht;exact h.dw i v hr ht
  fh:=h.fh }
def BC:Ty->Value->Bool
 | .int k, .int k' n=>decide (k=k')&&decide (n=0)
 | .bool, .bool b => !b
 | .str, .string s=>s.data.toList.isEmpty
 | .slice _, .slice none 0 0=>true
 | .ptr, .pointer none=>true
 | _,_=>false
def Rs:List Ty->List Value->Bool
 | [],[]=>true
 | t::ts,v::vs=>BC t v&&Rs ts vs
 | _,_=>false
def C7(τ:Ty)(v:Value):Bool :=
 match τ,v with
 | .st s, .agg cs=>Rs s.zT cs.toList
 | .st _,_=>false
 | τ,v=>BC τ v
def VI(P:Program)(T:TypeId)(τ:Ty):Bool :=
 match P.info? T with
 | some i=>Nat.beq i.size τ.size&&(match i.zero with
  | some z=>C7 τ z
  | none=>false)
 | none=>false
def Ke(E:Env)(s:aS):Nat->List Field->List Ty->Bool
 | _,[],[]=>true
 | i,f::fs,t::ts=>(match af E.ty f.type with
   | some (τ,_)=>decide (τ=t)
   | none=>false)&&Nat.beq f.offset (s.fA i)&&Ke E s (i+1) fs ts
 | _,_,_=>false
def uZ(P:Program)(E:Env)(T:TypeId)(τ:Ty)(b e:Nat):Bool :=
 VI P T τ&&match τ with
  | .int k=>match P.underlying T with
   | some (.int k')=>decide (k=k')
   | _=>false
  | .bool=>match P.underlying T with
   | some .bool=>true
   | _=>false
  | .str=>match P.underlying T with
   | some .string=>true
   | _=>false
  | .slice t=>match P.underlying T with
   | some (.slice e')=>Nat.beq e e'&&(match af E.ty e with
     | some (bj,_)=>decide (bj=t)
     | none=>false)&&(match P.info? e with
     | some i=>Nat.beq i.bytes b
     | none=>false)&&VI P e t
   | _=>false
  | .st s=>match P.underlying T with
   | some (.struct fs)=>Ke E s 0 fs.toList s.fU
   | _=>false
  | .mv _=>false
  | .ptr=>match P.underlying T with
   | some (.pointer _)=>true
   | _=>false
def XJ(P:Program)(E:Env)(T:TypeId)(κ ε:Ty):Bool:=match P.underlying T with
 | some (.map k e)=>match af E.ty k,af E.ty e with
  | some (κ',_),some (ε',_)=>decide (κ'=κ)&&(decide (ε'=ε)&&(κ.key&&ε.key))
  | _,_=>false
 | _=>false
structure Info(P:Program)(T:TypeId)(τ:Ty):Prop where
 ex:∃ i z,P.info? T=some i/\i.size=τ.size/\i.zero=some z/\C7 τ z=true
theorem a2t{P:Program}{T:TypeId}{τ:Ty}(h:VI P T τ=true):Info P T τ:=by
 unfold VI at h;split at h
 .rename_i i hi;simp only[b3J] at h;obtain⟨h1,h2⟩:=h;split at h2
  .rename_i z hz;exact⟨i,z,hi,b3G h1,hz,h2⟩
  .cases h2
 .cases h
def BU(P:Program)(w:World)(S:Nat->Prop):Arg->Value->Prop
 | .di v,x=>∃ f gl l,x = .func (.func f) #[] l.toArray/\J7 P f gl v.ps v.r v.F []/\aV (Mo w S) gl l
 | a,x=>Mo w S a x
theorem BU.of0{P:Program}{w:World}{S:Nat->Prop}{a:Arg}{x:Value}(h:Mo w S a x):BU P w S a x:=by
 cases a with
 | di v=>exact h.elim
 | own v=>exact h.elim
 | box k=>exact h.elim
 | _=>exact h
def bd(P:Program)(f:FuncId)(args:List Arg)(post:List TV->Prop):Prop :=
 ∀ (w:World) (S:Nat->Prop) (cI:List Value),yU w S->aV (BU P w S) args cI ->
  Calls P f cI.toArray w λ e w'=>∃ x S' res,e = .returned x/\post res/\bE (λ _=>False) w w'/\(∀ b,b<w.heap.size->(S' b↔S b))/\(∀ b,S' b->b<w'.heap.size)/\Ih w' S' res x
def DZ(w:World)(v:TV)(x:Value)(fp:List Nat):Prop :=
 match v with
 | ⟨.st s,y⟩=>∃ cs,x = .agg cs.toArray/\Ow w (s.aQ y) cs fp
 | v=>Ow w v.aQ [x] fp
def OM(w:World):List TV->List Value->List Nat->Prop
 | [],[],fp=>fp=[]
 | v::vs,x::xs,fp=>∃ f1 f2,fp=f1++f2/\DZ w v x f1/\OM w vs xs f2
 | _,_,_=>False
def wG(w:World):List TV->Value->List Nat->Prop
 | [v],x,fp=>DZ w v x fp
 | vs,x,fp=>∃ l,x = .tuple l.toArray/\OM w vs l fp
def wF(P:Program)(w:World)(S:Nat->Prop):List Arg->List Value->List Nat->Prop
 | [],[],fp=>fp=[]
 | a::Z9,x::xs,fp=>∃ f1 f2,fp=f1++f2/\(match a with
  | .own v=>DZ w v x f1
  | a=>f1=[]/\BU P w S a x)/\wF P w S Z9 xs f2
 | _,_,_=>False
def cY(P:Program)(f:FuncId)(args:List Arg)(res:List TV):Prop :=
 ∀ (w:World) (S:Nat->Prop) (cI:List Value) (fa:List Nat),yU w S->wF P w S args cI fa->(fa=[]\/∀ a∈args,a.Oy=true)->fa.Nodup->(∀ b∈fa,b<w.heap.size/\¬ S b) ->
  Calls P f cI.toArray w λ e w'=>∃ x fp,e = .returned x/\bE (λ b=>b∈fa) w w'/\wG w' res x fp/\fp.Nodup/\∀ b∈fp,b∈fa\/(w.heap.size<=b/\b<w'.heap.size)
theorem wF.X5{P:Program}{w:World}{S:Nat->Prop}:∀ {Z9:List Arg} {xs:List Value},aV (BU P w S) Z9 xs->wF P w S Z9 xs []
 | [],[],_=>rfl
 | a::Z9,x::xs,h=>by
  refine⟨[],[],rfl,?_,wF.X5 h.2⟩;cases a with
  | own v=>exact h.1.elim
  | box k=>exact h.1.elim
  | _=>exact⟨rfl,h.1⟩
 | [],_::_,h=>h.elim
 | _::_,[],h=>h.elim
def J8(P:Program)(f:FuncId)(m:DX):Prop :=
 ∀ (x:m.τ.den) (k:Int) (w:World) (v:Value) (fp:List Nat),(m.g x k).1.ok->O k->Gok w (λ b=>b<w.heap.size/\b∉fp)->DZ w ⟨m.τ,x⟩ v fp->fp.Nodup->(∀ b∈fp,b<w.heap.size) ->
  Calls P f #[v, .int .i64 k] w λ e w'=>e = .returned (.int .i64 (m.g x k).2.2)/\O (m.g x k).2.2/\bE (λ b=>b∈fp) w w'/\∃ yZ,DZ w' ⟨m.τ,(m.g x k).2.1⟩ v yZ/\yZ.Nodup/\∀ b∈yZ,b∈fp\/(w.heap.size<=b/\b<w'.heap.size)
def lP(w:World)(S:Nat->Prop)(B:Nat->Nat):List CK->List TV->List Value->List Nat->Prop
 | [],[],[],fp=>fp=[]
 | .d τ::ks,v::ds,x::xs,fp=>(v.τ=τ/\τ.agg=false/\Rd w S v.aQ [x])/\lP w S B ks ds xs fp
 | .o τ::ks,v::ds,x::xs,fp=>∃ f1 f2,fp=f1++f2/\(v.τ=τ/\τ.agg=false/\Ow w v.aQ [x] f1)/\lP w S B ks ds xs f2
 | .p j::ks,ds,x::xs,fp=>x = .pointer (some ⟨B j,0,none⟩)/\lP w S B ks ds xs fp
 | _,_,_,_=>False
def jg(w:World)(S:Nat->Prop)(B:Nat->Nat):Nat->List (List CK)->List (List TV)->List Nat->Prop
 | _,[],[],fp=>fp=[]
 | k,ks::sh,ds::bT,fp=>∃ l t f1 f2,fp=f1++f2/\w.heap[B k]?=some (.cells l.toArray t (0,0))/\lP w S B ks ds l f1/\jg w S B (k+1) sh bT f2
 | _,_,_,_=>False
def a1z(w:World)(S X:Nat->Prop)(B:Nat->Nat):Arg->Value->Prop
 | .box k,x=>x = .pointer (some ⟨B k,0,none⟩)
 | .val v,x=>eK w S v x
 | .ref v,x=>∃ b o cs,x = .pointer (some ⟨b,o,none⟩)/\b<w.heap.size/\¬ X b/\ct w b o cs/\Rd w S v.aQ cs
 | .fn f,x=>x = .func (.func f) #[] #[]
 | .di _,_=>False
 | .own _,_=>False
def BX(n:Nat)(B:Nat->Nat)(fa:List Nat)(b:Nat):Prop:=b∈fa\/∃ k,k<n/\b=B k
def qI(P:Program)(f:FuncId)(sh:List (List CK))(args:List Arg)(bT:List (List TV))(res:List TV)(eP:List (List TV)):Prop :=
 ∀ (w:World) (S:Nat->Prop) (B:Nat->Nat) (cI:List Value) (fa:List Nat),yU w S->jg w S B 0 sh bT fa->fa.Nodup->(∀ b∈fa,b<w.heap.size/\¬ S b/\∀ k,k<sh.length->B k≠b) ->
  (∀ k,k<sh.length->B k<w.heap.size/\¬ S (B k))->(∀ j k,j<sh.length->k<sh.length->B j=B k->j=k)->aV (a1z w S (BX sh.length B fa) B) args cI ->
  Calls P f cI.toArray w λ e w'=>∃ x S' fp Pz,e = .returned x/\bE (BX sh.length B fa) w w'/\(∀ b,S b->S' b)/\(∀ b,S' b->b<w'.heap.size)/\(∀ b,b<w.heap.size->¬ BX sh.length B fa b->(S' b↔S b)) /\
   wG w' res x fp/\jg w' S' B 0 sh eP Pz/\(fp++Pz).Nodup/\(∀ b∈fp++Pz,(b∈fa\/(w.heap.size<=b/\b<w'.heap.size))/\¬ S' b/\∀ k,k<sh.length->B k≠b)/\∀ k,k<sh.length->¬ S' (B k)
theorem bd.ok0{P:Program}{f:FuncId}{args:List Arg}{post:List TV->Prop}(h:bd P f args post):OL P f args post :=
 λ w S cI hS ha=>h w S cI hS (ha.imp λ _ _ _ hx => .of0 hx)
def a6G(w:World)(S T:Nat->Prop)(x:Value):a1A->Prop
 | .box cells=>∃ b l t,x = .pointer (some ⟨b,0,none⟩)/\w.heap[b]?=some (.cells l.toArray t (0,0))/\aV (λ v x=>v.τ.agg=false/\Rd w S v.aQ [x]) cells l
 | .row e τ xs=>∃ l,w.ownsRow 0 e τ.size x xs.length l/\dT w S (xs.map τ.aQ) l/\xs.length<=140737488355328
 | .res l=>∃ ys,x = .tuple ys.toArray/\aV (λ r x=>match r with
  | (true,v)=>∃ b o cs,x = .pointer (some ⟨b,o,none⟩)/\(S b\/T b)/\ct w b o cs/\Rd w S v.aQ cs
  | (false,v)=>eK w S v x) l ys
def a3d(P:Program)(f:FuncId)(args:List Arg)(o:a1A):Prop :=
 ∀ (w:World) (S T:Nat->Prop) (cI:List Value),yU w S->(∀ x∈cI,∀ a:Addr,x = .pointer (some a)->T a.block)->aV (BU P w S) args cI ->
  Calls P f cI.toArray w λ e w'=>∃ x S',e = .returned x/\bE (λ _=>False) w w'/\(∀ k,k<w.heap.size->(S' k↔S k))/\(∀ k,S' k->k<w'.heap.size) /\
   (∀ b,ew x=some b->w.heap.size<=b/\b<w'.heap.size/\¬ S' b)/\a6G w' S' T x o
structure bH(P:Program)(E:Env):Prop where
 ty:∀ T τ b e,af E.ty T=some (τ,b,e)->uZ P E T τ b e=true
 mty:∀ T κ ε,af E.mty T=some (κ,ε)->XJ P E T κ ε=true
 pty:∀ T τ,af E.pty T=some τ->True
 RQ:∀ f args pre res,E.RQ f args=some (pre,res)->pre.ok->jQ P f/\bd P f args (·=res)
 QF:∀ f args pre res,E.QF f args=some (pre,res)->pre.ok->jQ P f/\cY P f args res
 mark:∀ f m,E.mark f=some m->jQ P f/\J8 P f m
 XU:∀ f args pre o,E.XU f args=some (pre,o)->pre.ok->jQ P f/\a3d P f args o
 a0p:∀ f sk args bT pre res eP,E.sk f=some sk->E.a0p f args bT=some (pre,res,eP)->pre.ok->jQ P f/\qI P f sk.sh args bT res eP
section
variable {P:Program} {E:Env} {T:TypeId} {τ:Ty} {b e:Nat}
theorem bH.info(hE:bH P E)(h:af E.ty T=some (τ,b,e)):Info P T τ:=by
 have:=hE.ty _ _ _ _ h;unfold uZ at this;simp only[Bool.and_eq_true] at this;exact a2t this.1
theorem bH.int(hE:bH P E){k:IntKind}(h:af E.ty T=some (.int k,b,e)):P.underlying T=some (.int k):=by
 have:=hE.ty _ _ _ _ h;unfold uZ at this;simp only[Bool.and_eq_true] at this;have h2:=this.2;split at h2
 .rename_i k' hk;rw[hk,b4u h2]
 .cases h2
theorem bH.bool(hE:bH P E)(h:af E.ty T=some (.bool,b,e)):P.underlying T=some .bool:=by
 have:=hE.ty _ _ _ _ h;unfold uZ at this;simp only[Bool.and_eq_true] at this;have h2:=this.2;split at h2
 .assumption
 .cases h2
theorem bH.str(hE:bH P E)(h:af E.ty T=some (.str,b,e)):P.underlying T=some .string:=by
 have:=hE.ty _ _ _ _ h;unfold uZ at this;simp only[Bool.and_eq_true] at this;have h2:=this.2;split at h2
 .assumption
 .cases h2
theorem bH.slice(hE:bH P E){t:Ty}(h:af E.ty T=some (.slice t,b,e)) :
  P.underlying T=some (.slice e)/\(∃ b' e',af E.ty e=some (t,b',e'))/\(∃ i z,P.info? e=some i/\i.size=t.size/\i.bytes=b/\i.zero=some z/\C7 t z=true):=by
 have:=hE.ty _ _ _ _ h;unfold uZ at this;simp only[Bool.and_eq_true] at this;have h2:=this.2;split at h2
 .rename_i e' EK;simp only[b3J] at h2;obtain⟨⟨⟨h3,h4⟩,h5⟩,h6⟩:=h2;have h3:=b3G h3;subst h3;split at h4
  .rename_i bj r hl;have h4:=b4u h4;subst h4;obtain⟨i,z,hi,hs,hz,hzo⟩:=(a2t h6).ex;rw[hi] at h5;exact⟨EK,⟨_,_,hl⟩,i,z,hi,hs,b3G h5,hz,hzo⟩
  .cases h4
 .cases h2
theorem PA{s:aS}:∀ (n:Nat) (fs:List Field) (ts:List Ty),Ke E s n fs ts=true->fs.length=ts.length /\
  ∀ i f,fs[i]?=some f->∃ t b e,ts[i]?=some t/\af E.ty f.type=some (t,b,e)/\f.offset=s.fA (n+i)
 | _,[],[],_=>⟨rfl,by simp⟩
 | n,f::fs,t::ts,h=>by
  simp only[Ke,b3J] at h;obtain⟨⟨h1,h2⟩,h3⟩:=h;obtain⟨h4,h5⟩:=PA (n+1) fs ts h3;refine⟨by simp[h4],λ i g hi=>?_⟩;cases i with
  | zero =>
   simp at hi;subst hi;split at h1
   .rename_i τ r hl;have h1:=b4u h1;subst h1;exact⟨_,_,_,rfl,hl,b3G h2⟩
   .cases h1
  | succ i =>
   obtain⟨t',b',e',k1,k2,k3⟩:=h5 i g (by simpa using hi);exact⟨t',b',e',by simpa using k1,k2,by rw[k3];congr 1;omega⟩
 | _,[],_::_,h=>by cases h
 | _,_::_,[],h=>by cases h
theorem bH.st(hE:bH P E){s:aS}(h:af E.ty T=some (.st s,b,e)) :
  ∃ fs,P.underlying T=some (.struct fs)/\fs.size=s.fU.length/\∀ i f,fs[i]?=some f->∃ t b e,s.fU[i]?=some t/\af E.ty f.type=some (t,b,e)/\f.offset=s.fA i:=by
 have:=hE.ty _ _ _ _ h;unfold uZ at this;simp only[Bool.and_eq_true] at this;have h2:=this.2;split at h2
 .rename_i fs hfs;obtain⟨h3,h4⟩:=PA 0 _ _ h2;refine⟨fs,hfs,by simpa using h3,λ i f hi=>?_⟩;obtain⟨t,b',e',k1,k2,k3⟩:=h4 i f (by simpa using hi);exact⟨t,b',e',k1,k2,by simpa using k3⟩
 .cases h2
theorem bH.a7Z(hE:bH P E){t:Ty}(h:af E.ty T=some (.mv t,b,e)):False:=by
 have:=hE.ty _ _ _ _ h;unfold uZ at this;simp at this
theorem bH.ptr(hE:bH P E)(h:af E.ty T=some (.ptr,b,e)):∃ t,P.underlying T=some (.pointer t):=by
 have:=hE.ty _ _ _ _ h;unfold uZ at this;simp only[Bool.and_eq_true] at this;have h2:=this.2;split at h2
 .rename_i t ht;exact⟨t,ht⟩
 .cases h2
theorem bH.isAgg(hE:bH P E)(h:af E.ty T=some (τ,b,e))(w:World):(isAgg T).run P w = .ok τ.agg w:=by
 cases τ with
 | int k=>simp[Go.isAgg,b4F (hE.int h)];rfl
 | bool=>simp[Go.isAgg,b4F (hE.bool h)];rfl
 | str=>simp[Go.isAgg,b4F (hE.str h)];rfl
 | slice t=>simp[Go.isAgg,b4F (hE.slice h).1];rfl
 | st s=>obtain⟨fs,h1,_⟩:=hE.st h;simp[Go.isAgg,b4F h1];rfl
 | mv t=>exact (hE.a7Z h).elim
 | ptr=>obtain⟨t,ht⟩:=hE.ptr h;simp[Go.isAgg,b4F ht];rfl
theorem bH.sizeOf(hE:bH P E)(h:af E.ty T=some (τ,b,e))(w:World):(sizeOf T).run P w = .ok τ.size w:=by
 obtain⟨i,z,h1,h2,_⟩:=(hE.info h).ex;simp[Go.sizeOf,typeInfo,h1,h2]
theorem Ty.jN{τ:Ty}(h:τ.agg=false):τ.size=1:=by cases τ<;>first|rfl|cases h
theorem aS.size_pos(s:aS):0<s.size:=by cases s<;>decide
theorem Ty.size_pos(τ:Ty):0<τ.size:=by cases τ<;>first|exact Nat.one_pos|exact aS.size_pos _
def Lr(τ:Ty)(cs:List Value):Value :=
 match τ with
 | .st _ => .agg cs.toArray
 | _=>cs.getD 0 undef
theorem mY(hE:bH P E)(h:af E.ty T=some (τ,b,e)){w:World}{bk o:Nat}{cs:List Value}(hc:ct w bk o cs)(hl:cs.length=τ.size) :
  (Instr.loadAt T (.pointer (some ⟨bk,o,none⟩))).run P w = .ok (Lr τ cs) w:=by
 have Ux:∀ j v,cs[j]?=some v->w.cell? ((⟨bk,o,none⟩:Addr).add j)=some v:=λ j v hj=>by rw[b5S];exact hc j v hj
 simp only[Instr.loadAt,Instr.sureAddr,loadVar,b4q,b4s,b4g,hE.isAgg h];cases jx:τ.agg with
 | true =>
  simp only[b5y,b4q,hE.sizeOf h,b4g];rw[<-hl,run_loadCells_list w _ cs Ux];cases τ<;>first|rfl|cases jx
 | false =>
  have h1:cs.length=1:=hl.trans (Ty.jN jx);match cs,h1 with
  | [v],_ =>
   have:=hc 0 v rfl;simp only[b5D] at this;simp[run_load,this];cases τ<;>first|rfl|cases jx
end
section
variable {c:Ctx} {G:Gh} {lk:Nat->Option aD} {w:World}
theorem C1.gu{v:AV}{x:Value}(h:C1 c G lk w v x):VR c G lk w v x:=by
 cases v with
 | aI v =>
  obtain⟨τ,y⟩:=v;cases τ with
  | st s=>cases h.1
  | _=>exact h.2
 | agg cs=>exact h.elim
 | iR vs=>exact h.elim
 | di f cs=>exact h.elim
 | _=>exact h
theorem VR.a0t{v:AV}{x:Value}(h:VR c G lk w v x)(hc:v.cell=true):C1 c G lk w v x:=by
 cases v with
 | aI v =>
  obtain⟨τ,y⟩:=v;cases τ with
  | st s=>cases hc
  | _=>exact⟨rfl,h⟩
 | agg cs=>cases hc
 | iR vs=>cases hc
 | di f cs=>cases hc
 | any=>cases hc
 | _=>exact h
theorem jD{v:TV}(h:v.τ.agg=false):v.aQ.leaf=true:=by
 obtain⟨τ,y⟩:=v;cases τ<;>first|rfl|exact SG _ _ _|cases h
theorem C1.leaf{v:AV}{x:Value}(h:C1 c G lk w v x)(hc:v.cell=true):x.oneCell'=true/\x.cells = #[x]:=by
 cases v with
 | any=>cases hc
 | eh=>cases hc
 | agg cs=>cases hc
 | iR cs=>cases hc
 | di f cs=>cases hc
 | iC v=>cases hc
 | aI v =>
  obtain⟨y,h1,h2⟩:=Rd.xX (jD h.1) h.2;simp only[b3O,b3T] at h1;subst h1;exact⟨CQ h2,Qq h2⟩
 | nil=>rw[show x=_ from h];exact⟨rfl,rfl⟩
 | dc v=>obtain⟨b,o,cs,rfl,_⟩:=h;exact⟨rfl,rfl⟩
 | ptr i o=>obtain⟨b,_,rfl,_⟩:=h;exact⟨rfl,rfl⟩
 | row i=>obtain⟨_,_,a,n,m,rfl⟩:=h;exact⟨rfl,rfl⟩
 | aw i=>obtain⟨_,_,_,a,n,m,rfl⟩:=h;exact⟨rfl,rfl⟩
 | sub i k o z=>cases hc
 | eU i k o z=>cases hc
 | eB i k o=>obtain⟨b,n,cap,e,τ,xs,_,_,_,rfl⟩:=h;exact⟨rfl,rfl⟩
 | fn f=>rw[show x=_ from h];exact⟨rfl,rfl⟩
 | mp i=>obtain⟨_,_,b,rfl⟩:=h;exact⟨rfl,rfl⟩
theorem eK.cells{S:Nat->Prop}{v:TV}{x:Value}(h:eK w S v x):Rd w S v.aQ x.cells.toList:=by
 obtain⟨τ,y⟩:=v;cases τ with
 | st s =>
  obtain⟨cs,rfl,h⟩:=h;show Rd w S (s.aQ y) _;simpa [Value.cells] using h
 | _ =>
  obtain⟨z,h1,h2⟩:=Rd.xX (jD rfl) h;simp only[b3O,b3T] at h1;subst h1;rw[Qq h2];exact h
theorem eK.mk_{S:Nat->Prop}{v:TV}{cs:List Value}(h:Rd w S v.aQ cs):eK w S v (Lr v.τ cs):=by
 obtain⟨τ,y⟩:=v;cases τ with
 | st s=>exact⟨cs,rfl,h⟩
 | _ =>
  obtain⟨z,rfl,h2⟩:=Rd.xX (jD rfl) h;exact h
def SX(G:Gh)(lk:Nat->Option aD)(b:Nat):Prop:=G.S b\/(∃ id e τ xs,lk id=some (.row e τ xs)/\ew (G.η id)=some b)\/∃ id τ xs,lk id=some (.aw τ xs)/\b∈G.φ id
theorem bw.a5y{c:Ctx}{G:Gh}{sl:Nat->AV}{n:Nat}{lk:Nat->Option aD}{a:Act}{w:World}(h:bw c G sl n lk a w):yU w (SX G lk) :=
 ⟨λ b q=>by
  rcases q with hb|⟨id,e,τ,ys,aX,hb⟩|⟨id,τ,ys,aX,hb⟩
  .exact h.dH b hb
  .exact (h.place id _ b aX hb).2.2
  .exact (h.aP.pl id _ _ b aX hb).2.2.1,h.sOk.2.mono (λ _ q => .inl q) λ _ _=>rfl⟩
theorem SX.of{b:Nat}(h:G.S b):SX G lk b := .inl h
theorem a5u{id:Nat}{e:TypeId}{τ:Ty}{xs:List τ.den}(ho:OR c G lk w id (.row e τ xs))(aX:lk id=some (.row e τ xs)):Rd w (SX G lk) (Ty.aQ (.slice τ) xs) [G.η id]:=by
 obtain⟨l,h1,h2,h3⟩:=ho;rcases h1.2 with ⟨hv,hn⟩|⟨g,cap,cur,hv,_,hh,Uz,hcm,kr,htk⟩
 .have hx:xs=[]:=b4L hn;subst hx;exact⟨none,0,by simp[hv],by simp,by simp[maxLen],by simp, .inl rfl⟩
 .refine⟨some ⟨g,0,none⟩,cap,by simp[hv],by simpa using Uz,hcm,by simpa using h3,?_⟩;refine .inr ⟨g,0,rfl, .inr (.inl ⟨id,e,τ,xs,aX,by rw[hv];rfl⟩),?_⟩;refine dT.row _ g 0 (h2.aR (λ _ h=>SX.of h) (λ _ _=>rfl)) λ j v hj=>?_;have:=h1.cells (g:=g) (by rw[hv];rfl) j v hj;rw[Addr.add_lit] at this;exact this
theorem il.rd{S:Nat->Prop}{η:Value}{τ:Ty}{xs:List τ.den}{fp:List Nat}(h:il w η τ xs fp){x:Value}{l:List Value}(hx:η = .tuple (x::l).toArray)(hS:∀ b∈fp,S b):Rd w S (Ty.aQ (.slice τ) xs) [x]:=by
 obtain⟨v,l',a,cap,h1,h2,h3,h4,h5,h6⟩:=h;rw[hx] at h1;simp only[Value.tuple.injEq,List.toArray_inj,List.cons.injEq] at h1;obtain⟨rfl,rfl⟩:=h1;refine⟨a,cap,by simp[h2],by simpa using h3,h4,by simpa using h5,?_⟩;rcases h6 with ⟨rfl,_,_⟩|⟨b,f,t,rfl,rfl,k1,_,k2⟩
 .exact .inl rfl
 .exact .inr ⟨b,0,rfl,hS b (by simp),bR.rd _ (p:=[]) (by simpa using k1) k2 λ b hb=>hS b (by simp[hb])⟩
theorem a8A(HO:Ms c G lk w){id:Nat}{τ:Ty}{xs:List τ.den}{x:Value}(aX:lk id=some (.aw τ xs))(hx:C1 c G lk w (.aw id) x):Rd w (SX G lk) (Ty.aQ (.slice τ) xs) [x]:=by
 obtain⟨_,l,h2,_⟩:=hx;exact (HO.tr id τ xs aX).rd h2 λ b hb => .inr (.inr ⟨id,τ,xs,aX,hb⟩)
theorem b0u(HO:Ms c G lk w)(l5:∀ id o,lk id=some o->OR c G lk w id o){lk':Nat->Option aD}(cF:∀ id o,lk' id=some o->lk id=some o){τ:Ty}{v:AV}{x:Value}{y:τ.den}(h:jR lk' τ v=some y)
  (hv:C1 c G lk w v x):Rd w (SX G lk) (τ.aQ y) [x]:=by
 cases v with
 | aI u =>
  have e:=TV.aW h;subst e;exact Rd.aR (λ _ h=>SX.of h) (λ _ _=>rfl) _ hv.2
 | nil =>
  cases τ with
  | slice t =>
   simp only[jR,b3C] at h;subst h;exact⟨none,0,by rw[show x=_ from hv];rfl,by simp,by simp[maxLen],by simp, .inl rfl⟩
  | _=>cases h
 | row id =>
  simp only[jR] at h;split at h
  .rename_i e bj xs hl;have e1:=TV.aW h;cases e1;have oK:=cF _ _ hl;rw[hv.1];exact a5u (l5 _ _ oK) oK
  .cases h
 | aw id =>
  simp only[jR] at h;split at h
  .rename_i bj xs hl;have e1:=TV.aW h;cases e1;exact a8A HO (cF _ _ hl) hv
  .cases h
 | _=>cases h
theorem a8K{lk':Nat->Option aD}(ie:∀ id e τ xs,lk' id≠some (.row e τ xs))(UA:∀ id τ xs,lk' id≠some (.aw τ xs)){τ:Ty}{v:AV}{x:Value}{y:τ.den}(h:jR lk' τ v=some y)(hv:C1 c G lk w v x):Rd w G.S (τ.aQ y) [x]:=by
 cases v with
 | aI u =>
  have e:=TV.aW h;subst e;exact hv.2
 | nil =>
  cases τ with
  | slice t =>
   simp only[jR,b3C] at h;subst h;exact⟨none,0,by rw[show x=_ from hv];rfl,by simp,by simp[maxLen],by simp, .inl rfl⟩
  | _=>cases h
 | row id =>
  simp only[jR] at h;split at h
  .rename_i hl;exact absurd hl (ie _ _ _ _)
  .cases h
 | aw id =>
  simp only[jR] at h;split at h
  .rename_i hl;exact absurd hl (UA _ _ _)
  .cases h
 | _=>cases h
theorem VB{τ:Ty}{v:AV}{x:Value}{y:τ.den}(h:jR (λ _=>none) τ v=some y)(hv:C1 c G lk w v x):Rd w G.S (τ.aQ y) [x]:=by
 cases v with
 | aI u =>
  have e:=TV.aW h;subst e;exact hv.2
 | nil =>
  cases τ with
  | slice t =>
   simp only[jR,b3C] at h;subst h;exact⟨none,0,by rw[show x=_ from hv];rfl,by simp,by simp[maxLen],by simp, .inl rfl⟩
  | _=>cases h
 | _=>cases h
theorem TG{lk':Nat->Option aD}{R:TV->Value->Prop}{Q:AV->Value->Prop}(hR:∀ t v x y,jR lk' t v=some y->Q v x->R ⟨t,y⟩ x):∀ {cs:List AV} {ts:List Ty} {l:List TV} {vs:List Value},Wa lk' cs ts=some l->aV Q cs vs->aV R l vs
 | [],[],l,vs,h,k=>by
  simp only[Wa,b3C] at h;subst h;match vs,k with
  | [],_=>trivial
 | v::cs,t::ts,l,vs,h,k=>by
  simp only[Wa] at h;split at h
  .rename_i x hx;split at h
   .rename_i r hr;simp only[b3C] at h;subst h;match vs,k with
    | u::us,k=>exact⟨hR _ _ _ _ hx k.1,TG hR hr k.2⟩
   .cases h
  .cases h
 | [],_::_,_,_,h,_=>by cases h
 | _::_,[],_,_,h,_=>by cases h
theorem Mv{S:Nat->Prop}{lk':Nat->Option aD}(h1:∀ τ v x (y:τ.den),jR lk' τ v=some y->C1 c G lk w v x->Rd w S (τ.aQ y) [x])(hS:∀ b,G.S b->S b)
  {τ:Ty} {v:AV} {x:Value} {y:τ.den} (h:Hr lk' τ v=some y) (hv:VR c G lk w v x):eK w S ⟨τ,y⟩ x:=by
 have xl:∀ (yL:∀ cs,v ≠ .agg cs),jR lk' τ v=some y->eK w S ⟨τ,y⟩ x:=by
  intro yL ha;cases v with
  | aI u =>
   have e:=TV.aW ha;subst e;exact eK.mono (G:=G) (G':=⟨S,G.η,G.φ⟩) hv hS (λ _ _=>rfl)
  | nil =>
   have:=h1 τ .nil x y ha hv;cases τ with
   | st s=>cases ha
   | _=>exact this
  | row i =>
   have:=h1 τ (.row i) x y ha hv;cases τ with
   | st s =>
    simp only[jR] at ha;split at ha
    .have e:=TV.aW ha;cases e
    .cases ha
   | _=>exact this
  | aw i =>
   have:=h1 τ (.aw i) x y ha hv;cases τ with
   | st s =>
    simp only[jR] at ha;split at ha
    .have e:=TV.aW ha;cases e
    .cases ha
   | _=>exact this
  | agg cs=>exact absurd rfl (yL cs)
  | _=>cases ha
 cases v with
 | agg cs =>
  cases τ with
  | st s =>
   simp only[Hr] at h;split at h
   .rename_i l hl;obtain⟨vs,rfl,Dt⟩:=hv;refine⟨vs,rfl,?_⟩;rw[aS.cA,aS.oP h];exact dq.dI.2 (TG (λ t u z k hk hz=>h1 t u z k hk hz) hl Dt)
   .cases h
  | _=>cases h
 | _=>exact xl (by intro cs;simp) h
theorem Fv(HO:Ms c G lk w)(l5:∀ id o,lk id=some o->OR c G lk w id o){lk':Nat->Option aD}(cF:∀ id o,lk' id=some o->lk id=some o){τ:Ty}{v:AV}{x:Value}{y:τ.den}(h:Hr lk' τ v=some y)
  (hv:VR c G lk w v x):eK w (SX G lk) ⟨τ,y⟩ x :=
 Mv (λ τ v x y h hv=>b0u HO l5 cF h hv) (λ _ h=>SX.of h) h hv
theorem D3{lk':Nat->Option aD}(ie:∀ id e τ xs,lk' id≠some (.row e τ xs))(UA:∀ id τ xs,lk' id≠some (.aw τ xs)){τ:Ty}{v:AV}{x:Value}{y:τ.den}(h:Hr lk' τ v=some y)(hv:VR c G lk w v x):eK w G.S ⟨τ,y⟩ x :=
 Mv (λ τ v x y h hv=>a8K ie UA h hv) (λ _ h=>h) h hv
theorem OW{τ:Ty}{v:AV}{x:Value}{y:τ.den}(h:Hr (λ _=>none) τ v=some y)(hv:VR c G lk w v x):eK w G.S ⟨τ,y⟩ x :=
 Mv (λ τ v x y h hv=>VB h hv) (λ _ h=>h) h hv
theorem De{τ:Ty}{v:AV}{x:Value}{new:List AV}(h:cellsOf τ v=some new)(hv:VR c G lk w v x) :
  aV (C1 c G lk w) new x.cells.toList/\(∀ u∈x.cells.toList,u.oneCell'=true)/\new.length=τ.size:=by
 have one:v.cell=true->new=[v]->τ.size=1->aV (C1 c G lk w) new x.cells.toList/\(∀ u∈x.cells.toList,u.oneCell'=true)/\new.length=τ.size:=by
  intro hc hn hs;subst hn;have h1:=hv.a0t hc;obtain⟨h2,h3⟩:=h1.leaf hc;rw[h3];exact⟨⟨h1,U⟩,by simpa using h2,by simp[hs]⟩
 cases τ with
 | st s =>
  simp only[cellsOf] at h;split at h
  .rename_i u;split at h
   .rename_i y hy;simp only[b3C] at h;subst h;have e:=TV.aW hy;subst e;obtain⟨cs,rfl,hr⟩:=hv;rw[aS.cA] at hr;have ha:=dq.dI.1 hr;refine⟨?_,?_,by simp[Ty.size,aS.iT]⟩
    .simp only[Value.cells];refine aV.ej _ (ha.imp λ u z hu hz=>⟨?_,hz⟩);have:=aS.qy s y u hu;obtain⟨bj,z'⟩:=u;cases bj with
     | st s'=>simp[TV.aQ,Ty.aQ,aS.cA,D.leaf] at this
     | _=>rfl
    .simp only[Value.cells];intro u hu;obtain⟨i,hi,hiu⟩:=b6o hu;have hlen:=ha.length;obtain⟨b,hb,NI⟩:=ha.at_ i (s.cells y)[i] (b4j (by omega));have cz:b=u:=by
      have:cs[i]?=some u:=by rw[b4j hi,hiu]
      rw[this] at hb;exact (b6r hb).symm
     subst cz;obtain⟨z,h1,h2⟩:=Rd.xX (aS.qy s y _ (b4Z _)) NI;simp only[b3O,b3T] at h1;subst h1;exact CQ h2
   .cases h
  .rename_i cs;split at h
   .rename_i hb;simp only[Option.some.injEq] at h;subst h;simp only[Bool.and_eq_true] at hb;obtain⟨l,rfl,hl⟩:=hv;refine⟨by simpa [Value.cells] using hl,?_,by simpa [Ty.size] using Nat.eq_of_beq_eq_true hb.1⟩;simp only[Value.cells];intro u hu;obtain⟨i,hi,hiu⟩:=List.getElem_of_mem hu;have hlen:=hl.length;obtain⟨b,cz,NI⟩:=hl.at_ i cs[i] (List.getElem?_eq_getElem (by omega));have hbu:b=u:=by
     have:l[i]?=some u:=by rw[b4j hi,hiu]
     rw[this] at cz;exact (b6r cz).symm
    subst hbu;exact (NI.leaf (b4C.1 hb.2 _ (b4Z _))).1
   .cases h
  .cases h
 | int k =>
  simp only[cellsOf] at h;split at h
  .rename_i hc;simp only[b3C] at h;exact one hc h.symm rfl
  .cases h
 | bool =>
  simp only[cellsOf] at h;split at h
  .rename_i hc;simp only[b3C] at h;exact one hc h.symm rfl
  .cases h
 | str =>
  simp only[cellsOf] at h;split at h
  .rename_i hc;simp only[b3C] at h;exact one hc h.symm rfl
  .cases h
 | ptr =>
  simp only[cellsOf] at h;split at h
  .rename_i hc;simp only[b3C] at h;exact one hc h.symm rfl
  .cases h
 | mv t =>
  simp only[cellsOf] at h;split at h
  .rename_i hc;simp only[b3C] at h;exact one hc h.symm rfl
  .cases h
 | slice t =>
  simp only[cellsOf] at h;split at h
  .rename_i hc;simp only[b3C] at h;exact one hc h.symm rfl
  .cases h
theorem IU{cs:List AV}{l:List Value}(hl:aV (C1 c G lk w) cs l){off:Nat}{τ:Ty}{u:AV}(h:Kf cs off τ=some u) :
  VR c G lk w u (Lr τ ((l.drop off).take τ.size))/\((l.drop off).take τ.size).length=τ.size/\off+τ.size<=l.length:=by
 have hlen:=hl.length;have one:τ.size=1->(∀ s,τ ≠ .st s)->cs[off]?=some u->VR c G lk w u (Lr τ ((l.drop off).take τ.size))/\((l.drop off).take τ.size).length=τ.size/\off+τ.size<=l.length:=by
  intro hs cv hu;obtain⟨x,hx,hr⟩:=hl.at_ off u hu;have bN:off<l.length:=(b4B.1 hx).1;have he:(l.drop off).take 1=[x]:=by
   rw[b5r bN];have:=(b4B.1 hx).2;simp[this]
  rw[hs,he];refine⟨?_,rfl,by omega⟩;have:Lr τ [x]=x:=by cases τ<;>first|rfl|exact absurd rfl (cv _)
  rw[this];exact hr.gu
 cases τ with
 | st s =>
  simp only[Kf] at h;split at h
  .rename_i hb;simp only[b3C] at h;subst h;have hle:=b4w hb;refine⟨⟨_,rfl,(hl.drop off).take s.size⟩,?_,?_⟩
   .simp only[Ty.size,b4e,b4V];omega
   .simp only[Ty.size];omega
  .cases h
 | int k=>exact one rfl (by intro s;simp) h
 | bool=>exact one rfl (by intro s;simp) h
 | str=>exact one rfl (by intro s;simp) h
 | slice t=>exact one rfl (by intro s;simp) h
 | mv t=>exact one rfl (by intro s;simp) h
 | ptr=>exact one rfl (by intro s;simp) h
theorem ct.part{bk o:Nat}{l:List Value}(h:ct w bk o l)(off n:Nat):ct w bk (o+off) ((l.drop off).take n):=λ j v hj=>by
 rw[b5i] at hj;split at hj
 .rw[b5w] at hj;have:=h (off+j) v hj;rwa [<-b6A] at this
 .cases hj
theorem ct.of_heap{bk:Nat}{l:List Value}{t:TypeId}{fr:Nat×Nat}(h:w.heap[bk]?=some (.cells l.toArray t fr)):ct w bk 0 l:=λ j v hj=>by
 simp only[World.cell?,h,Nat.zero_add,Option.isSome_none];simpa using hj
theorem a4p{S:Nat->Prop}{v u:TV}{off:Nat}{τ:Ty}(h:v.part off τ=some u){l:List Value}(hl:Rd w S v.aQ l) :
  u.τ=τ/\((l.drop off).take τ.size).length=τ.size/\Rd w S u.aQ ((l.drop off).take τ.size):=by
 have hlen:=Rd.length _ hl;rw[show v.aQ=v.τ.aQ v.x from rfl,Ty.cP] at hlen;unfold TV.part at h;split at h
 .rename_i hb;simp only[b3J] at hb;simp only[b3C] at h;subst h;have h0:=b3G hb.1;have h1:=b4u hb.2;subst h0;subst h1;rw[b5O,b4a (by omega)];exact⟨rfl,hlen,hl⟩
 .split at h
  .rename_i z hz;split at h
   .rename_i hb;simp only[b3C] at h;subst h;have h1:=b4u hb;subst h1;obtain⟨bj,y⟩:=v;have key:∀ (x:Value),l[off]?=some x->z.τ.agg=false->Rd w S z.aQ [x]->z.τ=z.τ/\((l.drop off).take z.τ.size).length=z.τ.size/\Rd w S z.aQ ((l.drop off).take z.τ.size):=by
     intro x hx ha hr;have bN:off<l.length:=(b4B.1 hx).1;have he:(l.drop off).take 1=[x]:=by
      rw[b5r bN];have:=(b4B.1 hx).2;simp[this]
     rw[Ty.jN ha,he];exact⟨rfl,rfl,hr⟩
    cases bj with
    | st s =>
     simp only[TV.cells] at hz;rw[show TV.aQ ⟨.st s,y⟩=s.aQ y from rfl,aS.cA] at hl;obtain⟨x,hx,hr⟩:=(dq.dI.1 hl).at_ off z hz;refine key x hx ?_ hr;have:=aS.qy s y z (b5h hz);obtain⟨b2Z,z'⟩:=z;cases b2Z with
     | st s'=>simp[TV.aQ,Ty.aQ,aS.cA,D.leaf] at this
     | _=>rfl
    | _ =>
     simp only[TV.cells] at hz;cases off with
     | zero =>
      simp at hz;subst hz;obtain⟨x,rfl,_⟩:=Rd.xX (jD rfl) hl;exact key x rfl rfl hl
     | succ k=>simp at hz
   .cases h
  .cases h
theorem a6n{id:Nat}{e:TypeId}{τ:Ty}{xs:List τ.den}(ho:OR c G lk w id (.row e τ xs)){b n cap:Nat}(eH:G.η id = .slice (some ⟨b,0,none⟩) n cap){i:Nat}(hi:i<xs.length) :
  ∃ cs,cs.length=τ.size/\ct w b (i * τ.size) cs/\Rd w G.S (τ.aQ (xs.getD i τ.zero)) cs:=by
 obtain⟨l,h1,h2,h3⟩:=ho;have cM:∀ d∈xs.map τ.aQ,d.size=τ.size:=by
  intro d hd;obtain⟨y,_,rfl⟩:=b3N.1 hd;exact Ty.cP τ y
 have hll:=dT.length _ h2 cM;have WW:=dT.at_ _ h2 cM i (τ.aQ (xs.getD i τ.zero)) (by simp[List.getD,hi]);have hlen:=Rd.length _ WW;rw[Ty.cP] at hlen;refine⟨_,hlen,?_,WW⟩;have hc:ct w b 0 l:=λ j v hj=>by
  have:=h1.cells (g:=b) (by rw[eH];rfl) j v hj;rwa [b5S] at this
 have:=hc.part (i * τ.size) τ.size;rwa [b5n] at this
theorem rV(l5:∀ id o,lk id=some o->OR c G lk w id o){lk':Nat->Option aD}(cF:∀ id o,lk' id=some o->lk id=some o){τ:Ty}{v u:AV}{x:Value}(h:uQ lk' τ v=some u)(hv:VR c G lk w v x) :
  ∃ b o cs,x = .pointer (some ⟨b,o,none⟩)/\ct w b o cs/\cs.length=τ.size/\VR c G lk w u (Lr τ cs):=by
 cases v with
 | dc z =>
  simp only[uQ] at h;split at h
  .rename_i hb;simp only[b3C] at h;subst h;have e:=b4u hb;subst e;obtain⟨b,o,cs,h1,h2,h3,h4⟩:=hv;refine⟨b,o,cs,h1,h3,?_,eK.mk_ h4⟩;rw[Rd.length _ h4];exact Ty.cP _ _
  .cases h
 | ptr id off =>
  simp only[uQ] at h;split at h
  .rename_i cs hl;obtain⟨b,h1,h2,h3⟩:=hv;obtain⟨b',l,t,k1,k2,k3⟩:=l5 _ _ (cF _ _ hl);rw[h1] at k1;simp only[b6p,b3C,b5E,b3T] at k1;subst k1;obtain⟨m1,m2,m3⟩:=IU k3 h;refine⟨b,off,_,h2,?_,m2,m1⟩;have:=(ct.of_heap k2).part off τ.size;rwa [b5n] at this
  .cases h
 | eB id i off =>
  simp only[uQ] at h;split at h
  .rename_i e bj xs hl;split at h
   .rename_i z hz;simp only[b3C] at h;subst h;obtain⟨b,n,cap,e1,Zl,Zk,h1,h2,h3,h4⟩:=hv;have oK:=cF _ _ hl;rw[oK] at h2;simp only[b3C,aD.row.injEq] at h2;obtain⟨rfl,rfl,h2⟩:=h2;have h2:=b7k h2;subst h2;obtain⟨cs,m1,m2,m3⟩:=a6n (l5 _ _ oK) h1 h3;obtain⟨p1,p2,p3⟩:=a4p (v:=⟨bj,xs.getD i bj.zero⟩) hz m3;subst p1;exact⟨b,_,_,h4,m2.part off _,p2,eK.mk_ p3⟩
   .cases h
  .cases h
 | _=>cases h
end
theorem eI{k:IntKind}{n:Int}(h:bQ k n):k.min<=n/\n<=k.max:=by
 cases k<;>first
  | exact h
  | (simp only[bQ,O] at h;simp only[IntKind.min,IntKind.max,IntKind.signed,IntKind.bits,b5y];exact⟨by omega,by omega⟩)
theorem wD{k:IntKind}{n:Int}(h:k.min<=n/\n<=k.max):k.wrap n=n:=by
 cases k<;>simp[IntKind.min,IntKind.max,IntKind.signed,IntKind.bits] at h<;>simp[IntKind.wrap,IntKind.signed,IntKind.bits]<;>(try split)<;>omega
theorem YI(n:Int):IntKind.u64.min<=IntKind.u64.wrap n/\IntKind.u64.wrap n<=IntKind.u64.max:=by
 simp[IntKind.min,IntKind.max,IntKind.signed,IntKind.bits,IntKind.wrap];omega
theorem a4c{k:IntKind}{a:Int}(h0:0<=a)(h:k.min<=a/\a<=k.max):a.toNat<2 ^ k.bits:=by
 cases k<;>simp[IntKind.min,IntKind.max,IntKind.signed,IntKind.bits] at h ⊢<;>omega
theorem a5D{k:IntKind}{a b:Int}(ha0:0<=a)(P2:0<=b)(ha:k.min<=a/\a<=k.max)(hb:k.min<=b/\b<=k.max) :
  k.wrap ((BitVec.ofInt k.bits a &&& BitVec.ofInt k.bits b).toNat:Int)=((a.toNat &&& b.toNat:Nat):Int)/\k.min<=((a.toNat &&& b.toNat:Nat):Int)/\((a.toNat &&& b.toNat:Nat):Int)<=k.max:=by
 have h1:∀ x:Int,0<=x->k.min<=x/\x<=k.max->(BitVec.ofInt k.bits x).toNat=x.toNat:=λ x h0 hx=>by
  obtain⟨n,rfl⟩:=b6x h0;have:=a4c h0 hx;simp only[b3W] at this ⊢;rw[show BitVec.ofInt k.bits (n:Int)=BitVec.ofNat k.bits n from BitVec.ofInt_natCast ..,BitVec.toNat_ofNat];exact Nat.mod_eq_of_lt this
 have hle:((a.toNat &&& b.toNat:Nat):Int)<=a:=by
  have := @Nat.and_le_left a.toNat b.toNat;omega
 have hr:k.min<=((a.toNat &&& b.toNat:Nat):Int)/\((a.toNat &&& b.toNat:Nat):Int)<=k.max:=by
  refine⟨?_,by omega⟩;have:k.min<=0:=by cases k<;>decide
  omega
 rw[BitVec.toNat_and,h1 a ha0 ha,h1 b P2 hb];exact⟨wD hr,hr⟩
theorem V9{op:BinOp}{k yk:IntKind}{a b r:Int}{p:Vc}(h:arith op k a b=some (p,r))(hp:p.ok)(hk:op = .shl\/op = .shr\/yk=k)(P:Program)(t:TypeId)(w:World) :
  (binOp op t (.int k a) (.int yk b)).run P w = .ok (.int k r) w/\k.min<=r/\r<=k.max:=by
 cases op<;>simp only[arith] at h<;>try cases h
 case add =>
  have hk:yk=k:=by simpa using hk
  subst hk;split at h<;>simp only[b3C,b3F] at h<;>obtain⟨rfl,rfl⟩:=h
  .exact⟨by simp[binOp_add,Op.intArith],YI _⟩
  .have:=eI hp;exact⟨by simp[binOp_add,Op.intArith,wD this],this⟩
 case sub =>
  have hk:yk=k:=by simpa using hk
  subst hk;have:=eI hp;exact⟨by simp[binOp_sub,Op.intArith,wD this],this⟩
 case mul =>
  have hk:yk=k:=by simpa using hk
  subst hk;split at h<;>simp only[b3C,b3F] at h<;>obtain⟨rfl,rfl⟩:=h
  .exact⟨by simp[binOp_mul,Op.intArith],YI _⟩
  .have:=eI hp;exact⟨by simp[binOp_mul,Op.intArith,wD this],this⟩
 case quo =>
  have hk:yk=k:=by simpa using hk
  subst hk;have:=eI hp.2;exact⟨by simp[binOp_quo,Op.intDiv,hp.1,wD this],this⟩
 case rem =>
  have hk:yk=k:=by simpa using hk
  subst hk;have:=eI hp.2;exact⟨by simp[binOp_rem,Op.intDiv,hp.1],this⟩
 case and =>
  have hk:yk=k:=by simpa using hk
  subst hk;obtain⟨h1,h2⟩:=a5D hp.1 hp.2.1 (eI hp.2.2.1) (eI hp.2.2.2);exact⟨by simp only[binOp_and,Op.intBits,b4s,h1],h2⟩
 case shl =>
  have hp1:b<(k.bits:Int):=hp.2.1;have:=eI hp.2.2;have hb:min b.toNat k.bits=b.toNat:=by omega
  exact⟨by simp[binOp_shl,Op.shift,Int.not_lt.2 hp.1,hb,wD this],this⟩
 case shr =>
  have hp1:b<(k.bits:Int):=hp.2.1;have:=eI hp.2.2;have hb:min b.toNat k.bits=b.toNat:=by omega
  exact⟨by simp[binOp_shr,Op.shift,Int.not_lt.2 hp.1,hb],this⟩
theorem a1y(k:IntKind)(n:Int):k.min<=k.wrap n/\k.wrap n<=k.max:=by
 cases k<;>simp[IntKind.min,IntKind.max,IntKind.signed,IntKind.bits,IntKind.wrap]<;>omega
theorem a1F{wr:Bool}{op:BinOp}{k yk:IntKind}{a b r:Int}{p:Vc}(h:a0D wr op k a b=some (p,r))(hp:p.ok)(hk:op = .shl\/op = .shr\/yk=k)(P:Program)(t:TypeId)(w:World) :
  (binOp op t (.int k a) (.int yk b)).run P w = .ok (.int k r) w/\k.min<=r/\r<=k.max:=by
 unfold a0D at h;split at h
 .split at h
  .have hk:yk=k:=by simpa using hk
   subst hk;simp only[b3C,b3F] at h;obtain⟨rfl,rfl⟩:=h;exact⟨by simp[binOp_add,Op.intArith],a1y _ _⟩
  .have hk:yk=k:=by simpa using hk
   subst hk;simp only[b3C,b3F] at h;obtain⟨rfl,rfl⟩:=h;exact⟨by simp[binOp_sub,Op.intArith],a1y _ _⟩
  .have hk:yk=k:=by simpa using hk
   subst hk;simp only[b3C,b3F] at h;obtain⟨rfl,rfl⟩:=h;exact⟨by simp[binOp_mul,Op.intArith],a1y _ _⟩
  .exact V9 h hp hk P t w
 .exact V9 h hp hk P t w
theorem a7f{op:BinOp}{k:IntKind}{a b:Int}{r:Bool}(h:cmp op a b=some r)(P:Program)(t:TypeId)(w:World) :
  (binOp op t (.int k a) (.int k b)).run P w = .ok (.bool r) w:=by
 cases op<;>simp only[cmp,b3C] at h<;>try cases h
 .simp only[binOp_eql,b4s];congr 2
 .simp only[binOp_neq,b4s];congr 2
 .simp[binOp_lss]
 .simp[binOp_leq]
 .simp[binOp_gtr]
 .simp[binOp_geq]
section
variable {c:Ctx} {G:Gh} {lk:Nat->Option aD} {w:World}
theorem Zz(a b:ByteArray):(a.toList == b.toList)=decide (a.data.toList=b.data.toList):=by
 rw[b7y,b7y];rw[b5A];simp
theorem a3t(hE:bH c.P c.E){op:BinOp}{T:TypeId}{u v r:AV}{x y:Value}{p:Vc}{wr:Bool}(ox oy:Operand)
  (h:a3s (match af c.E.ty T with
   | some (.bool,_)=>true
   | _=>false) wr op u v=some (p,r)) (hp:p.ok) (hu:VR c G lk w u x) (hv:VR c G lk w v y) :
  ∃ z,(do eqGuard op T ox oy x y;binOp op T x y:Sem Value).run c.P w = .ok z w/\VR c G lk w r z:=by
 unfold a3s at h;split at h
 .rename_i k a k' b;obtain⟨h1,h2⟩:=hu;obtain⟨h3,h4⟩:=hv;simp only[b3O,b3T] at h1 h3;subst h1 h3;simp only[eqGuard_at_int,b4q,b4s,b4g];split at h
  .rename_i p' r' har;have key:(op = .shl\/op = .shr\/k'=k)->p'.ok->∃ z,(binOp op T (.int k a) (.int k' b)).run c.P w = .ok z w/\VR c G lk w (.aI ⟨.int k,r'⟩) z:=λ hk W8=>by
    obtain⟨h5,h6⟩:=a1F har W8 hk c.P T w;exact⟨_,h5,rfl,h6⟩
   split at h
   .simp only[b3C,b3F] at h;obtain⟨rfl,rfl⟩:=h;exact key (.inl rfl) hp
   .simp only[b3C,b3F] at h;obtain⟨rfl,rfl⟩:=h;exact key (.inr (.inl rfl)) hp
   .split at h
    .rename_i hk;simp only[b3C,b3F] at h;obtain⟨rfl,rfl⟩:=h;exact key (.inr (.inr (b4u hk).symm)) hp
    .cases h
  .split at h
   .rename_i hk;have hk:=b4u hk;subst hk;split at h
    .rename_i cc hc;simp only[b3C,b3F] at h;obtain⟨rfl,rfl⟩:=h;exact⟨_,a7f hc c.P T w,rfl⟩
    .cases h
   .cases h
 .rename_i a b;have hu:[x]=[.bool a]:=hu;have hv:[y]=[.bool b]:=hv;simp only[b3O,b3T] at hu hv;subst hu hv;split at h
  .rename_i hT;split at hT
   .rename_i r' hl;have hb:=hE.bool hl;split at h
    .simp only[b3C,b3F] at h;obtain⟨rfl,rfl⟩:=h;exact⟨.bool (a == b),by simp[binOp,run_equal_bool w T a b hb,eqGuard_at_bool],rfl⟩
    .simp only[b3C,b3F] at h;obtain⟨rfl,rfl⟩:=h;exact⟨.bool !(a == b),by simp[binOp,run_equal_bool w T a b hb,eqGuard_at_bool],rfl⟩
    .cases h
   .cases hT
  .cases h
 .rename_i a b;obtain⟨s,h1,h2,h3⟩:=hu;obtain⟨s',h4,h5,h6⟩:=hv;simp only[b3O,b3T] at h1 h4;subst h1 h4;subst h2 h5;split at h
  .simp only[b3C,b3F] at h;obtain⟨rfl,rfl⟩:=h;exact⟨.bool (s.toList == s'.toList),by simp[binOp,Op.stringOp,b6Y],by rw[Zz];rfl⟩
  .simp only[b3C,b3F] at h;obtain⟨rfl,rfl⟩:=h;exact⟨.bool (!(s.toList == s'.toList)),by simp[binOp,Op.stringOp,b6Y],by rw[Zz];rfl⟩
  .simp only[b3C,b3F] at h;obtain⟨rfl,rfl⟩:=h;have cM:s.size+s'.size<=140737488355328:=by
    have:=hp;simp only[b4K] at this;exact this
   have hs2:(s++s').size=s.size+s'.size:=ByteArray.size_append;refine⟨.string (s++s'),?_,s++s',rfl,by simp,by rw[hs2];exact cM⟩;have:¬ (((s.size+s'.size:Nat):Int)>IntKind.i64.max):=by rw[IntKind.max_i64];omega
   simp only[b6Y,b4q,b4s,b4g,binOp,Op.stringOp,b3R this]
  .cases h
 .cases h
theorem kQ(hE:bH c.P c.E){T:TypeId}{n:aS}{b e:Nat}(h:af c.E.ty T=some (.st n,b,e)){bk o:Nat}{i:Nat}(hi:i<n.fU.length)(w:World) :
  (Instr.fieldAt T (.pointer (some ⟨bk,o,none⟩)) i).run c.P w = .ok (.pointer (some ⟨bk,o+n.fA i,none⟩)) w:=by
 obtain⟨fs,h1,h2,h3⟩:=hE.st h;have hf:fs[i]?=some fs[i]:=b4R (by omega);obtain⟨t,b',e',h4,h5,h6⟩:=h3 i _ hf;have cM:=hE.sizeOf h5 w;have h0:t.size≠0:=Nat.pos_iff_ne_zero.1 t.size_pos;simp[Instr.fieldAt,b4F h1,hf,Instr.sureAddr,fieldPlace,cM,h0,b5S,h6]
theorem Yn(hE:bH c.P c.E){T:TypeId}{n:aS}{b e:Nat}(h:af c.E.ty T=some (.st n,b,e)){l:List Value}{i:Nat}{t:Ty}(hi:n.fU[i]?=some t)
  (hl:n.fA i+t.size<=l.length) (w:World) :
  (Instr.field T (.agg l.toArray) i).run c.P w = .ok (Lr t ((l.drop (n.fA i)).take t.size)) w:=by
 obtain⟨fs,h1,h2,h3⟩:=hE.st h;have bN:i<fs.size:=by have:=(b4B.1 hi).1;omega
 have hf:fs[i]?=some fs[i]:=b4R bN;obtain⟨t',b',e',h4,h5,h6⟩:=h3 i _ hf;rw[hi] at h4;simp only[b3C] at h4;subst h4;have cM:=hE.sizeOf h5 w;have hag:=hE.isAgg h5 w;simp only[Instr.field,b4q,b4F h1,b4g,hf,asAgg,part,hag,b4s];cases jx:t.agg with
 | true =>
  simp only[b5y,b4q,cM,b4g,b4s,h6];cases t<;>first|(cases jx;done)|skip
  simp only[Lr,Result.ok.injEq,Value.agg.injEq,b3T];apply b7r;simp[List.take_drop]
 | false =>
  have h1:=Ty.jN jx;simp only[b3L,b6B,h6];have hx:l.toArray[n.fA i]?=some (l[n.fA i]'(by omega)):=by rw[List.getElem?_toArray];exact b4j (by omega)
  rw[hx];simp only[b4s,h1];have he:(l.drop (n.fA i)).take 1=[l[n.fA i]'(by omega)]:=by
   rw[b5r (by omega),b6J,b4I]
  rw[he];cases t<;>first|rfl|cases jx
end
section
variable {c:Ctx} {G:Gh} {lk:Nat->Option aD} {w:World}
theorem a4E(k:IntKind):k.min<=0/\0<=k.max:=by cases k<;>decide
theorem J6{τ:Ty}{v:Value}(h:BC τ v=true):C1 c G lk w (zeroCell τ) v:=by
 unfold BC at h;split at h
 .simp only[b3J] at h;have h1:=b4u h.1;have h2:=b4u h.2;subst h1 h2;exact⟨rfl,rfl,a4E _⟩
 .rename_i b;cases b
  .exact⟨rfl,rfl⟩
  .cases h
 .rename_i s;exact⟨rfl,s,rfl,List.isEmpty_iff.1 h,by simp[List.isEmpty_iff] at h;simp[ByteArray.size,h]⟩
 .rfl
 .exact⟨rfl,_,rfl⟩
 .cases h
theorem lh{τ:Ty}{z:Value}(h:C7 τ z=true):aV (C1 c G lk w) (zeroCells τ) z.cells.toList:=by
 have key:∀ (ts:List Ty) (vs:List Value),Rs ts vs=true->aV (C1 c G lk w) (ts.map zeroCell) vs:=by
  intro ts;induction ts with
  | nil=>intro vs h;cases vs<;>first|trivial|cases h
  | cons t ts ih =>
   intro vs h;cases vs with
   | nil=>cases h
   | cons v vs =>
    simp only[Rs,b3J] at h;exact⟨J6 h.1,ih vs h.2⟩
 have one:∀ v,BC τ v=true->v.cells = #[v]:=by
  intro v hv;unfold BC at hv;split at hv<;>first|rfl|cases hv
 unfold C7 at h;split at h
 .rename_i s cs;exact key _ _ h
 .cases h
 .rename_i bj v h1 h2;rw[one _ h];have:zeroCells τ=[zeroCell τ]:=by
   cases τ<;>first|rfl|(rename_i s;cases v<;>first|exact absurd rfl (h2 s rfl)|cases h)
  rw[this];exact⟨J6 h,U⟩
theorem Rt{S:Nat->Prop}{τ:Ty}{z:Value}(h:C7 τ z=true):Rd w S (τ.aQ τ.zero) z.cells.toList:=by
 have h1:=lh (c:=⟨{ funcs := #[],goVersion := "",platform := "",initOrder := "",godebug := "",types := #[],rt:=default,cutTypes := #[],globals := #[],inits := #[],main:=0 },{ ty:=[],pty:=[],RQ:=λ _ _=>none },w,λ _=>True,S,λ _=>none,λ _=>False,λ _=>none⟩) (G:=⟨S,λ _=>undef,λ _=>[]⟩) (lk:=λ _=>none) (w:=w) h;have cell:∀ t x,C1 ⟨{ funcs := #[],goVersion := "",platform := "",initOrder := "",godebug := "",types := #[],rt:=default,cutTypes := #[],globals := #[],inits := #[],main:=0 },{ ty:=[],pty:=[],RQ:=λ _ _=>none },w,λ _=>True,S,λ _=>none,λ _=>False,λ _=>none⟩ ⟨S,λ _=>undef,λ _=>[]⟩ (λ _=>none) w (zeroCell t) x->Rd w S (t.aQ t.zero) [x]:=by
  intro t x hx;cases t with
  | slice t'=>exact VB (τ := .slice t') (v := .nil) rfl hx
  | _=>exact hx.2
 cases τ with
 | st s =>
  simp only[zeroCells] at h1;show Rd w S (s.aQ s.zero) _;rw[aS.cA];have hz:(s.cells s.zero).map TV.aQ=s.zT.map λ t=>t.aQ t.zero:=by cases s<;>rfl
  rw[hz];have h2:=aV.of_map _ h1;have:∀ (ts:List Ty) (vs:List Value),aV (λ t x=>Rd w S (t.aQ t.zero) [x]) ts vs->dq w S (ts.map λ t=>t.aQ t.zero) vs:=by
   intro ts;induction ts with
   | nil=>intro vs h;cases vs<;>first|rfl|cases h
   | cons t ts ih =>
    intro vs h;cases vs with
    | nil=>cases h
    | cons v vs=>exact⟨v,vs,rfl,h.1,ih vs h.2⟩
  exact this _ _ (h2.imp λ t x _ hx=>cell t x hx)
 | _ =>
  simp only[zeroCells] at h1;match hc:z.cells.toList,h1 with
  | [x],h1=>exact cell _ _ h1.1
theorem WL(off:Nat):∀ (xs:List Value) (k:Nat) (l:List Value),off+k+xs.length<=l.length ->
  (xs.zipIdx k).foldl (λ cs p=>cs.setIfInBounds (off+p.2) p.1) l.toArray=(l.take (off+k)++xs++l.drop (off+k+xs.length)).toArray
 | [],k,l,_=>by simp
 | x::xs,k,l,h=>by
  simp only[List.length_cons] at h;simp only[List.zipIdx_cons,List.foldl_cons];have:=WL off xs (k+1) (l.set (off+k) x) (by simp;omega);rw[List.setIfInBounds_toArray,this];congr 1;have e:=list_seg_step l (off+k) x xs (by omega);simpa [Nat.add_assoc] using e
theorem RU(place:Nat->Option (Nat×Nat))(i off size:Nat)(v:Value)(rest:List (Nat×Value))(l:List Value)(hp:place i=some (off,size))(hs:v.cells.size=size)(hl:off+size<=l.length) :
  Instr.fill place l.toArray ((i,v)::rest)=Instr.fill place (l.take off++v.cells.toList++l.drop (off+size)).toArray rest:=by
 have hn:(decide (v.cells.size≠size)||decide (off+v.cells.size>l.toArray.size))=false:=by
  simp[hs];omega
 simp only[Instr.fill,hp,hn,b3L,b6B];congr 1;rw[<-Array.foldl_toList,Array.toList_zipIdx];have:=WL off v.cells.toList 0 l (by simp[hs];omega);simp only[b5D,b4K,hs] at this;exact this
theorem Mj{E:Env}{s:aS}{place:Nat->Option (Nat×Nat)}(hp:∀ i t,s.fU[i]?=some t->place i=some (s.fA i,t.size)) :
  ∀ {ps:List (Nat×AV)} {vs:List (Nat×Value)} {cs dA:List AV} {l:List Value},partsOf E s cs ps=some dA->aV (λ p q=>p.1=q.1/\VR c G lk w p.2 q.2) ps vs->aV (C1 c G lk w) cs l ->
   ∃ l',Instr.fill place l.toArray vs=some l'.toArray/\aV (C1 c G lk w) dA l'
 | [],[],cs,dA,l,h,_,hl=>by
  simp only[partsOf,b3C] at h;subst h;exact⟨l,rfl,hl⟩
 | (i,v)::ps,(j,x)::vs,cs,dA,l,h,hv,hl=>by
  obtain⟨⟨EM,hx⟩,Xb⟩:=hv;have EM:i=j:=EM;subst EM;simp only[partsOf] at h;split at h
  .rename_i τ jx;split at h
   .rename_i new sN;split at h
    .rename_i cs1 EO;obtain⟨h1,_,h3⟩:=De sN hx;have hlen:=h1.length;have hll:=hl.length;unfold putCells at EO;split at EO
     .rename_i hb;have hb:=b4w hb;simp only[b3C] at EO;subst EO;have cM:x.cells.size=τ.size:=by rw[<-h3,hlen];simp
      have EL:s.fA i+τ.size<=l.length:=by omega
      rw[RU place i _ _ x vs l (hp i τ jx) cM EL];refine Mj hp h Xb ?_;rw[b4H,<-h3];exact (hl.take _).append (h1.append (hl.drop _))
     .cases EO
    .cases h
   .cases h
  .cases h
 | [],_::_,_,_,_,_,hv,_=>hv.elim
 | _::_,[],_,_,_,_,hv,_=>hv.elim
theorem L0{τ:Ty}{place:Nat->Option (Nat×Nat)}(hp:∀ i,place i=some (i * τ.size,τ.size)) :
  ∀ {ps:List (Nat×AV)} {vs:List (Nat×Value)} {n:Nat} {xs:List τ.den} {l:List Value},vM τ n ps=some xs->aV (λ p q=>p.1=q.1/\VR c G lk w p.2 q.2) ps vs ->
   (n+ps.length) * τ.size=l.length->∃ r,Instr.fill place l.toArray vs=some (l.take (n * τ.size)++r).toArray/\dT w G.S (xs.map τ.aQ) r
 | [],[],n,xs,l,h,_,hl=>by
  simp only[vM,b3C] at h;subst h;refine⟨[],?_,rfl⟩;simp only[b4b,b5D] at hl;rw[hl,b6i,b4W];rfl
 | (i,v)::ps,(j,x)::vs,n,xs,l,h,hv,hl=>by
  obtain⟨⟨EM,hx⟩,Xb⟩:=hv;have EM:i=j:=EM;subst EM;simp only[vM] at h;split at h
  .rename_i eY;have eY:=b3G eY;subst eY;split at h
   .rename_i y hy;split at h
    .rename_i ys R5;simp only[b3C] at h;subst h;have hr:=(OW hy hx).cells;have cM:x.cells.size=τ.size:=by
      have:=Rd.length _ hr;rw[show TV.aQ ⟨τ,y⟩=τ.aQ y from rfl,Ty.cP] at this;simpa using this
     simp only[b3P] at hl;have Qc:=τ.size_pos;have e1:(i+(ps.length+1)) * τ.size=i * τ.size+τ.size+ps.length * τ.size:=by
      rw[b4X,b4X];omega
     rw[RU place i _ _ x vs l (hp i) cM (by omega)];obtain⟨r,h1,h2⟩:=L0 hp (l:=l.take (i * τ.size)++x.cells.toList++l.drop (i * τ.size+τ.size)) R5 Xb (by
      simp[cM];rw[show (i+1+ps.length) * τ.size=i * τ.size+τ.size+ps.length * τ.size by rw[b4X,b4X];omega];omega)
     refine⟨x.cells.toList++r,?_,_,_,rfl,hr,h2⟩;rw[h1];congr 2;rw[show (i+1) * τ.size=i * τ.size+τ.size by rw[b4X];omega];have ht:(l.take (i * τ.size)++x.cells.toList).length=i * τ.size+τ.size:=by simp[cM];omega
     rw[<-ht,b5P,b4H]
    .cases h
   .cases h
  .cases h
 | [],_::_,_,_,_,_,hv,_=>hv.elim
 | _::_,[],_,_,_,_,hv,_=>hv.elim
theorem Ha{τ:Ty}:∀ {ps:List (Nat×AV)} {n:Nat} {xs:List τ.den},vM τ n ps=some xs->xs.length=ps.length
 | [],n,xs,h=>by
  simp only[vM,b3C] at h;subst h;rfl
 | (i,v)::ps,n,xs,h=>by
  simp only[vM] at h;split at h
  .split at h
   .split at h
    .rename_i ys R5;simp only[b3C] at h;subst h;simp[Ha R5]
    .cases h
   .cases h
  .cases h
theorem Hm(z:Array Value)(k:Nat):(madeCells z ((k+1) * z.size)).toList=(madeCells z (k * z.size)).toList++z.toList:=by
 apply b6y;intro j;have e:(k+1) * z.size=k * z.size+z.size:=by rw[b4X];omega
 by_cases h1:j<k * z.size
 .rw[b5J (by simp[madeCells];exact h1)];have h2:j<(k+1) * z.size:=by omega
  simp[madeCells,h1,h2]
 .by_cases h2:j<(k+1) * z.size
  .rw[b5g (by simp[madeCells];omega)];have h3:j - k * z.size<z.size:=by omega
   have hm:j % z.size=j - k * z.size:=by
    have h4:(j - k * z.size+z.size * k) % z.size=j - k * z.size:=by rw[Nat.add_mul_mod_self_left,Nat.mod_eq_of_lt h3]
    rwa [Nat.mul_comm z.size k,Nat.sub_add_cancel (Nat.le_of_not_lt h1)] at h4
   simp[madeCells,h2,hm,h3]
  .rw[b5g (by simp[madeCells];omega)];have h3:¬ j - k * z.size<z.size:=by omega
   simp[madeCells,h2];omega
theorem Md{S:Nat->Prop}{d:D}{z:Array Value}(h:Rd w S d z.toList):∀ k:Nat,dT w S (List.replicate k d) (madeCells z (k * z.size)).toList
 | 0=>by simp[madeCells,dT,Array.range_zero']
 | k+1=>by
  rw[Hm,b6j];exact dT.append _ _ (Md h k) ⟨z.toList,[],by simp,h,rfl⟩
theorem Hn(z:Array Value)(n m:Nat)(h:n<=m):(madeCells z m).toList.take n=(madeCells z n).toList:=by
 apply b6y;intro j;rw[b5i];by_cases hj:j<n
 .have:j<m:=by omega
  simp[madeCells,hj,this]
 .simp[madeCells,hj]
end
def LV(d:Option Nat)(v:AV):aD->Prop
 | .box _=>∃ i,d=some i/\v = .ptr i 0
 | .row .. => ∃ i,d=some i/\v = .row i
 | .aw .. => False
 | .map .. => ∃ i,d=some i/\v = .mp i
def a4F(c:Ctx)(G:Gh)(lk:Nat->Option aD)(w:World)(x:Value):aD->Prop
 | .box cs=>∃ b l t,x = .pointer (some ⟨b,0,none⟩)/\w.heap[b]?=some (.cells l.toArray t (0,0))/\aV (C1 c G lk w) cs l
 | .row e τ xs=>∃ l,w.ownsRow 0 e τ.size x xs.length l/\dT w G.S (xs.map τ.aQ) l/\xs.length<=140737488355328
 | .aw .. => False
 | .map m=>∃ b es clock,x = .map (some b)/\w.heap[b]?=some (.map es clock)/\OK m es
def BV(c:Ctx)(G:Gh)(sl:Nat->AV)(n:Nat)(lk:Nat->Option aD)(d:Option Nat)(a:Act)(w:World)(v:AV)(ob:Option aD)(a':Act)(w':World):Prop :=
 ∃ x S',a'=a.put d x/\bw c ⟨S',G.η,G.φ⟩ sl n lk a w' /\
  match ob with
  | none=>VR c ⟨S',G.η,G.φ⟩ lk w' v x
  | some o=>LV d v o/\a4F c ⟨S',G.η,G.φ⟩ lk w' x o/\∀ b,ew x=some b->w.heap.size<=b/\b<w'.heap.size/\¬ S' b
section
variable {c:Ctx} {G:Gh} {sl:Nat->AV} {n:Nat} {lk:Nat->Option aD} {a:Act} {w w':World}
theorem bw.grow(h:bw c G sl n lk a w)(hk:bE (λ _=>False) w w'){S':Nat->Prop}(hS:∀ b,b<w.heap.size->(S' b↔G.S b))(hLt:∀ b,S' b->b<w'.heap.size):bw c ⟨S',G.η,G.φ⟩ sl n lk a w':=by
 refine h.world ⟨hk.os,hk.tape,hk.output,hk.size,λ b hb _=>hk.block b hb (λ h=>h)⟩ (λ b hb=>(hS b (h.dH b hb)).2 hb) hS (λ b hb=>?_) hLt (λ b hb=>?_) (λ id o b ho hb=>?_) (λ id τ xs b ht hb=>hk.block b (h.aP.pl id τ xs b ht hb).2.2.1 (λ h=>h))
 .have h1:=h.sX b hb;exact (hS b (h.dH b h1)).2 h1
 .refine hk.block b ?_ (λ h=>h);rcases hb with hb|hb
  .exact h.dH b hb
  .exact b3X hb.1 h.aR.size
 .exact hk.block b (h.place id o b ho hb).2.2 (λ h=>h)
theorem gB(w:World)(o:Obj):bE (λ _=>False) w (w.alloc o):=⟨rfl,rfl,rfl,by simp,λ b hb _=>RowKit.Below.heap_alloc w o b hb⟩
theorem bw.alloc(h:bw c G sl n lk a w)(o:Obj):bw c G sl n lk a (w.alloc o) :=
 h.grow (S':=G.S) (gB w o) (λ _ _=>b5G) (λ b hb=>by have:=h.dH b hb;simp;omega)
theorem bw.a1s(h:bw c G sl n lk a w)(hk:bE (λ _=>False) w w')(b:Nat)(hb:St c G.S b):w'.heap[b]?=w.heap[b]?:=by
 refine hk.block b ?_ (λ h=>h);rcases hb with hb|hb
 .exact h.dH b hb
 .exact b3X hb.1 h.aR.size
theorem bw.b0G(h:bw c G sl n lk a w)(hk:bE (λ _=>False) w w'){v:AV}{x:Value}(hv:C1 c G lk w v x):C1 c G lk w' v x :=
 hv.mono (λ _ _=>⟨eF.refl _,rfl⟩) (λ _ h=>h) (h.a1s hk)
theorem cG{o:Oper}{v:AV}{x:Value}{Q:Exit->Act->World->Prop}(hI:bw c G sl n lk a w)(hr:(execOp a.eval o).run c.P w = .ok (.value x) w)(hv:VR c G lk w v x) :
  o.wp c.P a w (BV c G sl n lk o.dst a w v none) Q:=by
 unfold Oper.wp;rw[hr];exact⟨x,G.S,rfl,hI,hv⟩
theorem Ez{o:Oper}{v:AV}{ob:aD}{x:Value}{Q:Exit->Act->World->Prop}(hI0:bw c G sl n lk a w)(hr:(execOp a.eval o).run c.P w = .ok (.value x) w')(hI:bw c G sl n lk a w')
  (hL:LV o.dst v ob) (hN:a4F c G lk w' x ob) (hb:∀ b,ew x=some b->w.heap.size<=b/\b<w'.heap.size) :
  o.wp c.P a w (BV c G sl n lk o.dst a w v (some ob)) Q:=by
 unfold Oper.wp;rw[hr];exact⟨x,G.S,rfl,hI,hL,hN,λ b h=>⟨(hb b h).1,(hb b h).2,λ hs=>by have:=hI0.dH b hs;have:=(hb b h).1;omega⟩⟩
theorem a0f{e:TypeId}{τ:Ty}{xs:List τ.den}{x:Value}{l:List Value}{S S':Nat->Prop}(h1:w.ownsRow 0 e τ.size x xs.length l)(h2:dT w S (xs.map τ.aQ) l)(h3:xs.length<=140737488355328)(hS:∀ b,S b->S' b)(hb:∀ b,ew x=some b->S' b) :
  Rd w S' (Ty.aQ (.slice τ) xs) [x]:=by
 rcases h1.2 with ⟨hv,hn⟩|⟨g,cap,cur,hv,_,hh,Uz,hcm,kr,htk⟩
 .have hx:xs=[]:=b4L hn;subst hx;exact⟨none,0,by simp[hv],by simp,by simp[maxLen],by simp, .inl rfl⟩
 .refine⟨some ⟨g,0,none⟩,cap,by simp[hv],by simpa using Uz,hcm,by simpa using h3,?_⟩;refine .inr ⟨g,0,rfl,hb g (by rw[hv];rfl),?_⟩;refine dT.row _ g 0 (h2.aR hS (λ _ _=>rfl)) λ j v hj=>?_;have:=h1.cells (g:=g) (by rw[hv];rfl) j v hj;rw[Addr.add_lit] at this;exact this
theorem a5K{o:Oper}{τ:Ty}{xs:List τ.den}{e:TypeId}{x:Value}{l:List Value}{Q:Exit->Act->World->Prop}(hI:bw c G sl n lk a w)(hr:(execOp a.eval o).run c.P w = .ok (.value x) w')(hk:bE (λ _=>False) w w')
  (h1:w'.ownsRow 0 e τ.size x xs.length l) (h2:dT w' G.S (xs.map τ.aQ) l) (h3:xs.length<=140737488355328) (hb:∀ b,ew x=some b->w.heap.size<=b/\b<w'.heap.size) :
  o.wp c.P a w (BV c G sl n lk o.dst a w (.aI ⟨.slice τ,xs⟩) none) Q:=by
 unfold Oper.wp;rw[hr];refine⟨x,λ b=>G.S b\/ew x=some b,rfl,hI.grow hk (λ b cz=>⟨λ q=>q.elim id λ q=>absurd (hb b q).1 (by omega), .inl⟩) λ b q=>q.elim (λ q=>Nat.lt_of_lt_of_le (hI.dH b q) hk.size) λ q=>(hb b q).2,?_⟩;exact a0f h1 h2 h3 (λ _ q => .inl q) (λ _ q => .inr q)
theorem TT{v:TV}(h:v.flat=true){S S':Nat->Prop}{w w':World}{cs:List Value}(hr:Rd w S v.aQ cs):Rd w' S' v.aQ cs:=by
 have one:∀ u:TV,u.τ.agg=false->(match u.τ with | .slice _=>false | .mv _=>false|_=>true)=true->∀ cs,Rd w S u.aQ cs->Rd w' S' u.aQ cs:=by
  intro u h1 h2 cs h3;obtain⟨τ,y⟩:=u;cases τ<;>first|exact h3|(cases h1;done)|(simp at h2;done)
 obtain⟨τ,y⟩:=v;cases τ with
 | st s =>
  rw[show TV.aQ ⟨.st s,y⟩=s.aQ y from rfl,aS.cA] at hr ⊢;refine dq.dI.2 ((dq.dI.1 hr).imp λ u x hu hx=>?_);refine one u ?_ (b4C.1 h u hu) _ hx;have:=aS.qy s y u hu;obtain⟨bj,z⟩:=u;cases bj with
  | st s'=>simp[TV.aQ,Ty.aQ,aS.cA,D.leaf] at this
  | _=>rfl
 | slice t=>simp[TV.flat,TV.cells] at h
 | mv t=>simp[TV.flat,TV.cells] at h
 | ptr=>exact hr
 | int k=>exact hr
 | bool=>exact hr
 | str=>exact hr
theorem WJ{v:TV}(h:v.flat=true){S S':Nat->Prop}{w w':World}{x:Value}(hr:eK w S v x):eK w' S' v x:=by
 obtain⟨τ,y⟩:=v;cases τ with
 | st s =>
  obtain⟨cs,h1,h2⟩:=hr;exact⟨cs,h1,TT (v:=⟨.st s,y⟩) h h2⟩
 | _=>exact TT (v:=⟨_,y⟩) (w:=w) (w':=w') (S:=S) (S':=S') h hr
theorem Gv{lk':Nat->Option aD}(cF:∀ id o,lk' id=some o->lk id=some o):∀ id o,uU lk' id=some o->lk id=some o:=by
 intro id o h;unfold uU at h;split at h
 .rename_i cs hc;simp only[b3C] at h;subst h;exact cF _ _ hc
 .cases h
theorem Gw{lk':Nat->Option aD}:∀ id e τ xs,uU lk' id≠some (.row e τ xs):=by
 intro id e τ xs h;unfold uU at h;split at h<;>simp at h
theorem CW{lk':Nat->Option aD}:∀ id τ xs,uU lk' id≠some (.aw τ xs):=by
 intro id τ xs h;unfold uU at h;split at h<;>simp at h
theorem a4a{τ:Ty}{cs:List Value}{x:τ.den}{S:Nat->Prop}(h:eK w S ⟨τ,x⟩ (Lr τ cs))(hl:cs.length=τ.size):Rd w S (τ.aQ x) cs:=by
 cases τ with
 | st s =>
  obtain⟨dA,h1,h2⟩:=h;simp only[Lr,Value.agg.injEq] at h1;have:cs=dA:=by have:=congrArg Array.toList h1;simpa using this
  subst this;exact h2
 | _ =>
  match cs,hl with
  | [v],_=>exact h
theorem CR.gu{v:AV}{x:Value}(h:CR c G lk w v x):VR c G lk w v x:=by
 cases v with
 | aI v=>exact h
 | agg cs=>exact h
 | any=>trivial
 | eh=>exact h
 | iR _=>exact h.elim
 | di _ _=>exact h.elim
 | nil=>exact h
 | dc v=>exact h
 | ptr i o=>exact h
 | row i=>exact h
 | eB i k o=>exact h
 | fn f=>exact h
 | aw i=>exact h
 | sub i k o z=>exact h
 | eU i k o z=>exact h
 | iC v=>exact h
 | mp i=>exact h
theorem C1.a3b{v:AV}{x:Value}(h:C1 c G lk w v x):CR c G lk w v x:=by
 cases v with
 | aI v=>exact C1.gu (v := .aI v) h
 | agg cs=>exact h.elim
 | iR cs=>exact h.elim
 | di f cs=>exact h.elim
 | _=>exact h
theorem CR.inv{v:AV}{x:Value}(h:CR c G lk w v x):(∃ u,v = .aI u/\eK w G.S u x)\/(∃ cs l,v = .agg cs/\x = .agg l.toArray/\aV (C1 c G lk w) cs l)\/C1 c G lk w v x:=by
 cases v with
 | aI v=>exact .inl ⟨v,rfl,h⟩
 | agg cs =>
  obtain⟨l,h1,h2⟩:=h;exact .inr (.inl ⟨cs,l,rfl,h1,h2⟩)
 | _=>exact .inr (.inr h)
theorem VR.a3b{v:AV}{x:Value}(h:VR c G lk w v x)(hc:v.a7c=true):CR c G lk w v x:=by
 cases v with
 | iR _=>cases hc
 | di _ _=>cases hc
 | eh=>cases hc
 | iC _=>cases hc
 | _=>exact h
theorem IL{S:Nat->Prop}{lk':Nat->Option aD}(hI:bw c G sl n lk a w)(cF:∀ id o,lk' id=some o->lk id=some o)
  (pF:∀ (τ:Ty) v x (y:τ.den),Hr lk' τ v=some y->VR c G lk w v x->eK w S ⟨τ,y⟩ x) {τ:Ty} {v:AV} {x:Value} {y:τ.den} (hy:deref lk' τ v=some y) (hx:VR c G lk w v x):Mo w S (.ref ⟨τ,y⟩) x:=by
 unfold deref at hy;split at hy
 .rename_i u hu;obtain⟨b,o,cs,h1,h2,h3,h4⟩:=rV hI.aN cF hu hx;have h5:=a4a (pF _ _ _ _ hy h4) h3;have Qc:=τ.size_pos;have hc0:=h2 0 (cs[0]'(by omega)) (b4j (by omega));exact⟨b,o,cs,h1,World.block_lt_of_cell? w _ hc0,h2,h5⟩
 .cases hy
theorem FM{S:Nat->Prop}{lk':Nat->Option aD}(hI:bw c G sl n lk a w)(cF:∀ id o,lk' id=some o->lk id=some o)
  (pF:∀ (τ:Ty) v x (y:τ.den),Hr lk' τ v=some y->VR c G lk w v x->eK w S ⟨τ,y⟩ x) :
  ∀ {ks:List (Bool×Ty)} {vs:List AV} {Z9:List Arg} {xs:List Value},FL lk' ks vs=some Z9->aV (CR c G lk w) vs xs->aV (Mo w S) Z9 xs
 | [],[],Z9,xs,h,hv=>by
  simp only[FL,b3C] at h;subst h;match xs,hv with
  | [],_=>trivial
 | (true,τ)::ks,v::vs,Z9,xs,h,hv=>by
  simp only[FL] at h;split at h
  .rename_i y hy;split at h
   .rename_i r hr;simp only[b3C] at h;subst h;match xs,hv with
    | x::xs,hv=>exact⟨IL hI cF pF hy hv.1.gu,FM hI cF pF hr hv.2⟩
   .cases h
  .cases h
 | (false,τ)::ks,v::vs,Z9,xs,h,hv=>by
  simp only[FL] at h;split at h
  .rename_i y hy;split at h
   .rename_i r hr;simp only[b3C] at h;subst h;match xs,hv with
    | x::xs,hv=>exact⟨pF _ _ _ _ hy hv.1.gu,FM hI cF pF hr hv.2⟩
   .cases h
  .cases h
 | [],_::_,_,_,h,_=>by cases h
 | (true,_)::_,[],_,_,h,_=>by cases h
 | (false,_)::_,[],_,_,h,_=>by cases h
theorem MW(hE:bH c.P c.E){f:FuncId}{gl:List Arg}:∀ (ps:List Ty) (r:Ty) (acc:List Arg),J7 c.P f gl ps r (Wn c.E f gl ps r acc) acc
 | [],r,acc=>by
  show (Wn c.E f gl [] r acc).1->_;intro hp;generalize hF:Wn c.E f gl [] r acc=F at hp ⊢;rw[Wn] at hF;split at hF
  .rename_i pre v hc;split at hF
   .rename_i y hy;subst hF;have:=TV.aW hy;subst this;obtain⟨h1,h2⟩:=hE.RQ f _ _ _ hc hp;exact⟨h1,h2.ok0⟩
   .subst hF;exact hp.elim
  .subst hF;exact hp.elim
 | t::ts,r,acc=>λ x=>MW hE ts r (acc++[.val ⟨t,x⟩])
theorem TD{P:Program}{f:FuncId}{gl:List Arg}:∀ {ps:List Ty} {r:Ty} {F:FN ps r} {acc Z9:List Arg} {p:Prop} {y:r.den},J7 P f gl ps r F acc->wI ps r F Z9=some (p,y)->p ->
  (jQ P f/\OL P f (acc++Z9++gl) (·=[⟨r,y⟩]))/\∀ z∈Z9,∃ v,z = .val v
 | [],r,F,acc,[],p,y,h,e,hp=>by
  simp only[wI,Option.some.injEq] at e;have h':F.1->jQ P f/\OL P f (acc++gl) (·=[⟨r,F.2⟩]):=h;rw[e] at h';refine⟨by simpa using h' hp,by simp⟩
 | t::ts,r,F,acc, .val z::zs,p,y,h,e,hp=>by
  simp only[wI] at e;split at e
  .rename_i x hx;have h':∀ x,J7 P f gl ts r (F x) (acc++[.val ⟨t,x⟩]):=h;obtain⟨h1,h2⟩:=TD (h' x) e hp;have:=TV.aW hx;subst this;refine⟨by simpa using h1,λ z hz=>?_⟩;rcases List.mem_cons.1 hz with rfl|hz
   .exact⟨_,rfl⟩
   .exact h2 z hz
  .cases e
 | [],_,_,_,_::_,_,_,_,e,_=>by simp[wI] at e
 | _::_,_,_,_,[],_,_,_,e,_=>by simp[wI] at e
 | _::_,_,_,_, .ref _::_,_,_,_,e,_=>by simp[wI] at e
 | _::_,_,_,_, .fn _::_,_,_,_,e,_=>by simp[wI] at e
 | _::_,_,_,_, .di _::_,_,_,_,e,_=>by simp[wI] at e
theorem FQ(hE:bH c.P c.E){S:Nat->Prop}{lk':Nat->Option aD}(hI:bw c G sl n lk a w)(cF:∀ id o,lk' id=some o->lk id=some o)(hSS:∀ b,G.S b->S b)
  (pF:∀ (τ:Ty) v x (y:τ.den),Hr lk' τ v=some y->VR c G lk w v x->eK w S ⟨τ,y⟩ x) {g:AV} {x:Value} {q:FV} (h:Ps c.E lk' g=some q) (hx:VR c G lk w g x):BU c.P w S (.di q) x:=by
 unfold Ps at h;split at h
 .rename_i f cs;split at h
  .rename_i k _;split at h
   .rename_i Z9 has;simp only[b3C] at h;subst h;obtain⟨l,h1,h2⟩:=hx;exact⟨f,Z9,l,h1,MW hE _ _ _,FM hI cF pF has h2⟩
   .cases h
  .cases h
 .simp only[b3C] at h;subst h;obtain⟨f,gl,l,h1,h2,h3⟩:=hx;refine⟨f,gl,l,h1,h2,h3.imp λ u y _ hy=>?_⟩;cases u with
  | val v=>exact eK.mono (G:=G) (G':=⟨S,G.η,G.φ⟩) hy hSS (λ _ _=>rfl)
  | ref v =>
   obtain⟨b,o,cs,k1,k2,k3,k4⟩:=hy;refine⟨b,o,cs,k1,?_,k3,Rd.aR hSS (λ _ _=>rfl) _ k4⟩;exact k2.elim (hI.dH b) λ k=>b3X k.1 hI.aR.size
  | fn f=>exact hy
  | di v=>exact hy.elim
  | own v=>exact hy.elim
  | box k=>exact hy.elim
 .rename_i f;split at h
  .rename_i k _;split at h
   .simp only[b3C] at h;subst h;exact⟨f,[],[],hx,MW hE _ _ _,U⟩
   .cases h
  .cases h
 .cases h
theorem iq(hE:bH c.P c.E){S:Nat->Prop}{lk':Nat->Option aD}(hI:bw c G sl n lk a w)(cF:∀ id o,lk' id=some o->lk id=some o)(hSS:∀ b,G.S b->S b)
  (pF:∀ (τ:Ty) v x (y:τ.den),Hr lk' τ v=some y->VR c G lk w v x->eK w S ⟨τ,y⟩ x) :
  ∀ {Ts:List TypeId} {vs:List AV} {Z9:List Arg} {xs:List Value},nf c.E lk' Ts vs=some Z9->aV (VR c G lk w) vs xs->aV (BU c.P w S) Z9 xs
 | [],[],Z9,xs,h,hv=>by
  simp only[nf,b3C] at h;subst h;match xs,hv with
  | [],_=>trivial
 | T::Ts,v::vs,Z9,xs,h,hv=>by
  simp only[nf] at h;split at h
  .rename_i p hp;split at h
   .rename_i r hr;simp only[b3C] at h;subst h;match xs,hv with
    | x::xs,hv =>
     refine⟨?_,iq hE hI cF hSS pF hr hv.2⟩;have hx:=hv.1;unfold V8 at hp;split at hp
     .split at hp
      .rename_i y hy;simp only[b3C] at hp;subst hp;exact pF _ _ _ _ hy hx
      .cases hp
     .split at hp
      .rename_i τ _;split at hp
       .rename_i y hy;simp only[b3C] at hp;subst hp;exact IL hI cF pF hy hx
       .cases hp
      .split at hp
       .rename_i q hq;simp only[b3C] at hp;subst hp;exact FQ hE hI cF hSS pF hq hx
       .split at hp
        .simp only[b3C] at hp;subst hp;exact hx
        .cases hp
   .cases h
  .cases h
 | [],_::_,_,_,h,_=>by cases h
 | _::_,[],_,_,h,_=>by cases h
theorem C0{S:Nat->Prop}{res:List TV}{x:Value}(h:Ih w S res x){η:Nat->Value}{φ:Nat->List Nat}:VR c ⟨S,η,φ⟩ lk w (GH res) x:=by
 match res,h with
 | [v],h=>exact h
 | [],h =>
  obtain⟨l,h1,h2⟩:=h;exact⟨l,h1,aV.ej _ h2⟩
 | v::u::r,h =>
  obtain⟨l,h1,h2⟩:=h;exact⟨l,h1,aV.ej _ h2⟩
theorem ZQ{S S':Nat->Prop}{res:List TV}{x:Value}(hf:res.all TV.flat=true)(h:Ih w S res x):Ih w S' res x:=by
 have kX:∀ v∈res,v.flat=true:=b4C.1 hf;match res,h,kX with
 | [v],h,kX=>exact WJ (kX v (by simp)) h
 | [],h,kX =>
  obtain⟨l,h1,h2⟩:=h;exact⟨l,h1,h2.imp λ v y hv hy=>WJ (kX v hv) hy⟩
 | v::u::r,h,kX =>
  obtain⟨l,h1,h2⟩:=h;exact⟨l,h1,h2.imp λ v y hv hy=>WJ (kX v hv) hy⟩
theorem TN(hE:bH c.P c.E)(hI:bw c G sl n lk a w){lk':Nat->Option aD}(cF:∀ id o,lk' id=some o->lk id=some o){o:Oper}{f:FuncId}{Ts:List TypeId}{vs:List AV}{xs:List Value}
  {vc:Vc} {v:AV} {ob:Option aD} (hq:J9 c.E lk' f Ts vs=some (vc,v,ob)) (ep:vc.ok) (lB:aV (VR c G lk w) vs xs)
  (cH:jQ c.P f->(execOp a.eval o).run c.P w = .ok (.enter f xs.toArray) w) {Q:Exit->Act->World->Prop}:o.wp c.P a w (BV c G sl n lk o.dst a w v ob) Q:=by
 have fin:∀ (S:Nat->Prop) (Z9:List Arg) (pre:Vc) (res:List TV),c.E.RQ f Z9=some (pre,res)->pre.ok->aV (BU c.P w S) Z9 xs->yU w S ->
   (∀ S' w' x,bE (λ _=>False) w w'->(∀ b,b<w.heap.size->(S' b↔S b))->(∀ b,S' b->b<w'.heap.size)->Ih w' S' res x->BV c G sl n lk o.dst a w (GH res) none (a.put o.dst x) w') ->
   o.wp c.P a w (BV c G sl n lk o.dst a w (GH res) none) Q:=by
  intro S Z9 pre res hc AD has bN NA;obtain⟨od,iW⟩:=hE.RQ f Z9 pre res hc AD;unfold Oper.wp;rw[cH od];simp only[Oper.upon];refine (iW w S xs bN has).mono ?_;rintro e w' ⟨x,S',b2L,rfl,rfl,h1,h2,h3,h4⟩;exact NA S' w' x h1 h2 h3 h4
 unfold J9 at hq;split at hq
 .rename_i Z9 has;split at hq
  .rename_i pre res hc;simp only[b3C,b3F] at hq;obtain⟨rfl,rfl,rfl⟩:=hq;refine fin G.S Z9 _ _ hc ep (iq hE hI (Gv cF) (λ _ h=>h) (λ τ v x y h1 h2=>D3 Gw CW h1 h2) has lB) hI.sOk ?_;intro S' w' x h1 h2 h3 h4;exact⟨x,S',rfl,hI.grow h1 h2 h3,C0 h4⟩
  .cases hq
 .split at hq
  .rename_i Z9 has;split at hq
   .rename_i pre res hc;split at hq
    .rename_i hfl;simp only[b3C,b3F] at hq;obtain⟨rfl,rfl,rfl⟩:=hq;refine fin (SX G lk) Z9 _ _ hc ep (iq hE hI cF (λ _ h => .inl h) (λ τ v x y h1 h2=>Fv hI.aP hI.aN cF h1 h2) has lB) ?_ ?_
     .exact hI.a5y
     .intro S' w' x h1 h2 h3 h4;exact⟨x,G.S,rfl,hI.grow (S':=G.S) h1 (λ _ _=>b5G) (λ b hb=>b3X (hI.dH b hb) h1.size),C0 (ZQ hfl h4)⟩
    .cases hq
   .cases hq
  .cases hq
theorem Zf{o:Oper}{cl:Call}{fo:Operand}{f:FuncId}{l:List Value}(ho:o.op = .call cl)(hc:cl.callee = .value fo)(hf:a.eval fo = .func (.func f) #[] l.toArray)(od:jQ c.P f) :
  (execOp a.eval o).run c.P w = .ok (.enter f (cl.args.toList.map a.eval++l).toArray) w:=by
 obtain⟨fn,h1,h2,h3⟩:=od;have h3':(fn.name = "runtime.NumGoroutine")=False:=by simpa using h3
 have h2':fn.body≠none:=by intro e;simp[e] at h2
 simp[execOp,ho,resolve,hc,Deferred.ofValue,hf,invoke,callFunc,h1,h2',h3']
theorem IF(hE:bH c.P c.E)(hI:bw c G sl n lk a w){lk':Nat->Option aD}(cF:∀ id o,lk' id=some o->lk id=some o){o:Oper}{cl:Call}{fo:Operand}{g:AV}{Ts:List TypeId}{vs:List AV}
  {vc:Vc} {v:AV} {ob:Option aD} (hq:Eu c.E lk' g Ts vs=some (vc,v,ob)) (ep:vc.ok) (lB:aV (VR c G lk w) vs (cl.args.toList.map a.eval)) (bB:o.op = .call cl) (gT:cl.callee = .value fo) (hg:VR c G lk w g (a.eval fo))
  {Q:Exit->Act->World->Prop}:o.wp c.P a w (BV c G sl n lk o.dst a w v ob) Q:=by
 have fin:∀ (S:Nat->Prop) (Z9:List Arg) (q:FV) (pre:Prop) (y:q.r.den),wI q.ps q.r q.F Z9=some (pre,y)->pre->aV (BU c.P w S) Z9 (cl.args.toList.map a.eval)->BU c.P w S (.di q) (a.eval fo)->yU w S ->
   (∀ S' w' x,bE (λ _=>False) w w'->(∀ b,b<w.heap.size->(S' b↔S b))->(∀ b,S' b->b<w'.heap.size)->Ih w' S' [⟨q.r,y⟩] x->BV c G sl n lk o.dst a w (GH [⟨q.r,y⟩]) none (a.put o.dst x) w') ->
   o.wp c.P a w (BV c G sl n lk o.dst a w (GH [⟨q.r,y⟩]) none) Q:=by
  intro S Z9 q pre y hap AD has b2i bN NA;obtain⟨f,gl,l,h1,h2,h3⟩:=b2i;obtain⟨⟨od,iW⟩,a2q⟩:=TD h2 hap AD;unfold Oper.wp;rw[Zf bB gT h1 od];simp only[Oper.upon];simp only[List.nil_append] at iW;have b2d:aV (Mo w S) Z9 (cl.args.toList.map a.eval):=has.imp λ u z hu hz=>by
   obtain⟨v,rfl⟩:=a2q u hu;exact hz
  refine (iW w S _ bN (b2d.append h3)).mono ?_;rintro e w' ⟨x,S',b2L,rfl,rfl,h1,h2,h3,h4⟩;exact NA S' w' x h1 h2 h3 h4
 unfold Eu at hq;split at hq
 .rename_i r0 Xa;split at Xa
  .rename_i Z9 has;split at Xa
   .rename_i q hqq;split at Xa
    .rename_i pre y hap;simp only[b3C] at Xa hq;subst Xa;simp only[b3F] at hq;obtain⟨rfl,rfl,rfl⟩:=hq;refine fin G.S Z9 q pre y hap ep (iq hE hI (Gv cF) (λ _ h=>h) (λ τ v x y h1 h2=>D3 Gw CW h1 h2) has lB) (FQ hE hI (Gv cF) (λ _ h=>h) (λ τ v x y h1 h2=>D3 Gw CW h1 h2) hqq hg) hI.sOk ?_;intro S' w' x h1 h2 h3 h4;exact⟨x,S',rfl,hI.grow h1 h2 h3,C0 h4⟩
    .cases Xa
   .cases Xa
  .cases Xa
 .split at hq
  .rename_i Z9 has;split at hq
   .rename_i q hqq;split at hq
    .rename_i pre y hap;split at hq
     .rename_i hfl;simp only[b3C,b3F] at hq;obtain⟨rfl,rfl,rfl⟩:=hq;refine fin (SX G lk) Z9 q pre y hap ep (iq hE hI cF (λ _ h => .inl h) (λ τ v x y h1 h2=>Fv hI.aP hI.aN cF h1 h2) has lB) (FQ hE hI cF (λ _ h => .inl h) (λ τ v x y h1 h2=>Fv hI.aP hI.aN cF h1 h2) hqq hg) ?_ ?_
      .exact hI.a5y
      .intro S' w' x h1 h2 h3 h4;exact⟨x,G.S,rfl,hI.grow (S':=G.S) h1 (λ _ _=>Iff.rfl) (λ b hb=>Nat.lt_of_lt_of_le (hI.dH b hb) h1.size),C0 (ZQ (res:=[⟨q.r,y⟩]) (by simpa using hfl) h4)⟩
     .cases hq
    .cases hq
   .cases hq
  .cases hq
theorem gX{o:Oper}{cl:Call}{fo:Operand}{f:FuncId}(ho:o.op = .call cl)(hc:cl.callee = .value fo)(hf:a.eval fo = .func (.func f) #[] #[])(od:jQ c.P f) :
  (execOp a.eval o).run c.P w = .ok (.enter f (cl.args.toList.map a.eval).toArray) w:=by
 obtain⟨fn,h1,h2,h3⟩:=od;have h3':(fn.name = "runtime.NumGoroutine")=False:=by simpa using h3
 have h2':fn.body≠none:=by intro e;simp[e] at h2
 simp[execOp,ho,resolve,hc,Deferred.ofValue,hf,invoke,callFunc,h1,h2',h3'];apply b7r;simp
theorem aV.pj{ev:Operand->AV}(cW:∀ x,VR c G lk w (ev x) (a.eval x)):∀ l:List Operand,aV (VR c G lk w) (l.map ev) (l.map a.eval)
 | []=>trivial
 | x::r=>⟨cW x,aV.pj cW r⟩
theorem aV.Kn{ev:Operand->AV}(cW:∀ x,VR c G lk w (ev x) (a.eval x)):∀ l:List (Nat×Operand),
  aV (λ p q=>p.1=q.1/\VR c G lk w p.2 q.2) (l.map λ p=>(p.1,ev p.2)) (l.map λ p=>(p.1,a.eval p.2))
 | []=>trivial
 | x::r=>⟨⟨rfl,cW x.2⟩,aV.Kn cW r⟩
theorem jZ{S:Nat->Prop}{t:Ty}{xs:List t.den}{x:Value}(h:eK w S ⟨.slice t,xs⟩ x):∃ ad cap,x = .slice ad xs.length cap/\xs.length<=cap/\xs.length<=140737488355328 /\
  (xs=[]\/∃ b o,ad=some ⟨b,o,none⟩/\S b/\du w S (xs.map t.aQ) b o):=by
 obtain⟨ad,cap,h1,h2,h3,h4,h5⟩:=h;simp only[List.cons.injEq,and_true,List.length_map] at h1;exact⟨ad,cap,h1,by simpa using h2,by simpa using h4,h5.imp (λ h=>by simpa using h) id⟩
theorem a9d(lo hi m n:Int)(h1:lo<=m/\m<=hi)(h2:lo<=n/\n<=hi):lo<=max m n/\max m n<=hi:=by omega
theorem a9c(m n:Int):(if n>m then n else m)=max m n:=by
 rw[Int.max_def];split<;>split<;>omega
theorem a2A(hE:bH c.P c.E){op:BinOp}{T:TypeId}{u v r:AV}{x y:Value}{p:Vc}(ox oy:Operand)
  (h:a1j c.E op T u v=some (p,r)) (hp:p.ok) (hu:VR c G lk w u x) (hv:VR c G lk w v y) :
  ∃ z,(do eqGuard op T ox oy x y;binOp op T x y:Sem Value).run c.P w = .ok z w/\VR c G lk w r z:=by
 unfold a1j at h;split at h
 .rename_i t r1 τ xs hl;have hy:y = .slice none 0 0:=hv;subst hy;obtain⟨r1,r2⟩:=r1;obtain⟨hT,_⟩:=hE.slice hl;obtain⟨a,cap,h1,_,h3⟩:=jZ hu;subst h1;have heq:(Op.equal T (.slice a xs.length cap) (.slice none 0 0)).run c.P w = .ok a.isNone w:=by
   have h9:∀ d:Nat,(Op.equalIn (d+1) T (.slice a xs.length cap) (.slice none 0 0)).run c.P w = .ok a.isNone w:=λ d=>by
    cases a<;>simp[Op.equalIn,b4F hT]
   exact h9 9999
  have key:1<=xs.length->a.isNone=false:=λ hx=>by
   rcases h3.2 with h|⟨b,o,h,_⟩
   .subst h;simp at hx
   .subst h;rfl
  split at h
  .simp only[b3C,b3F] at h;obtain⟨rfl,rfl⟩:=h;refine⟨.bool false,?_,rfl⟩;simp only[eqGuard_at_slice,b4q,b4s,b4g,binOp,heq,key hp]
  .simp only[b3C,b3F] at h;obtain⟨rfl,rfl⟩:=h;refine⟨.bool true,?_,rfl⟩;simp only[eqGuard_at_slice,b4q,b4s,b4g,binOp,heq,key hp];rfl
  .cases h
 .cases h
theorem a6r{S:Nat->Prop}{t:Ty}{ys:List t.den}{ad:Option Addr}{m cap:Nat}(h1:ys.length=m)(h2:m<=cap)(h3:cap<=maxLen)(h4:m<=140737488355328)
  (h5:ys=[]\/∃ b o,ad=some ⟨b,o,none⟩/\S b/\du w S (ys.map t.aQ) b o):eK w S ⟨.slice t,ys⟩ (.slice ad m cap):=by
 subst h1;exact⟨ad,cap,by simp,by simpa using h2,h3,by simpa using h4,h5.imp (λ h=>by simp[h]) id⟩
theorem sx(hE:bH c.P c.E){T:TypeId}{t:Ty}{b e:Nat}(h:af c.E.ty T=some (.slice t,b,e)){bk o len cap:Nat}{k:IntKind}{i:Int}(h0:0<=i)(h1:i<len)(w:World) :
  (Instr.indexAt T (.slice (some ⟨bk,o,none⟩) len cap) (.int k i)).run c.P w = .ok (.pointer (some ⟨bk,o+i.toNat * t.size,none⟩)) w:=by
 obtain⟨h2,⟨b',e',h3⟩,_⟩:=hE.slice h;simp[Instr.indexAt,b4F h2,asIntOf,h0,h1,hE.sizeOf h3 w,b5S]
theorem L1(s:aS)(y:s.den)(i:Nat){f:TV}(hf:(s.fields y)[i]?=some f):((s.cells y).drop (s.fA i)).take f.τ.size=f.cells/\s.fA i+f.τ.size<=s.size:=by
 have F6:∀ v:TV,v.cells.length=v.τ.size:=by
  rintro⟨τ,x⟩;cases τ<;>first|rfl|exact aS.iT _ _
 have key:∀ (l:List TV) (i:Nat) (f:TV),l[i]?=some f->((l.flatMap TV.cells).drop ((l.map TV.τ).take i |>.map Ty.size).sum).take f.τ.size=f.cells/\(((l.map TV.τ).take i).map Ty.size).sum+f.τ.size<=(l.flatMap TV.cells).length:=by
  intro l;induction l with
  | nil=>intro i f h;simp at h
  | cons g l ih =>
   intro i f h;cases i with
   | zero =>
    simp at h;subst h;have:=F6 g;simp only[b4I,b5u,List.sum_nil,b5O,List.flatMap_cons,b3U,b5n];exact⟨by rw[<-this,b5P],by omega⟩
   | succ i =>
    obtain⟨h1,h2⟩:=ih i f (by simpa using h);simp only[List.map_cons,List.take_succ_cons,List.sum_cons,List.flatMap_cons,List.length_append,<-F6 g];refine⟨?_,by omega⟩;rw[<-List.drop_drop,List.drop_left];exact h1
 have:=key _ i f hf;rw[<-aS.LU,aS.Ci,aS.iT] at this;exact this
theorem IN{S:Nat->Prop}{s:aS}{y:s.den}{i:Nat}{f:TV}(hf:(s.fields y)[i]?=some f){cs:List Value}(h:Rd w S (TV.aQ ⟨.st s,y⟩) cs):Rd w S f.aQ ((cs.drop (s.fA i)).take f.τ.size):=by
 obtain⟨h1,_⟩:=L1 s y i hf;rw[show TV.aQ ⟨.st s,y⟩=s.aQ y from rfl,aS.cA] at h;have h2:=((dq.dI.1 h).drop (s.fA i)).take f.τ.size;rw[h1] at h2;obtain⟨τ,x⟩:=f;cases τ with
 | st s' =>
  show Rd w S (s'.aQ x) _;rw[aS.cA];exact dq.dI.2 h2
 | _ =>
  simp only[TV.cells] at h2;match hc:(cs.drop (s.fA i)).take (Ty.size _),h2 with
  | [v],h2=>exact h2.1
theorem a2a{S:Nat->Prop}{s:aS}{y:s.den}{i:Nat}{f:TV}(hf:(s.fields y)[i]?=some f){cs:List Value}(h:Rd w S (s.aQ y) cs):s.fA i+f.τ.size<=cs.length/\True:=by
 obtain⟨_,h1⟩:=L1 s y i hf;have:=Rd.length _ h;rw[aS.cA] at this;simp only[D.size,b3Y,aS.iT] at this;exact⟨by omega,U⟩
theorem Ty.size_le(τ:Ty):τ.size<=100:=by
 have:∀ s:aS,s.size<=100:=by intro s;cases s<;>decide
 cases τ<;>first|exact this _|(simp[Ty.size];done)
theorem Rd.nI{S:Nat->Prop}{τ:Ty}{x:τ.den}{cs:List Value}(h:Rd w S (τ.aQ x) cs):∀ u∈cs,u.oneCell'=true:=by
 cases τ with
 | st s =>
  rw[show Ty.aQ (.st s) x=s.aQ x from rfl,aS.cA] at h;have ha:=dq.dI.1 h;intro u hu;obtain⟨i,hi,hiu⟩:=b6o hu;have hlen:=ha.length;obtain⟨b,hb,hr⟩:=ha.at_ i (s.cells x)[i] (b4j (by omega));have hbu:b=u:=by
   have:cs[i]?=some u:=by rw[b4j hi,hiu]
   rw[this] at hb;exact (b6r hb).symm
  subst hbu;obtain⟨z,h1,h2⟩:=Rd.xX (aS.qy s x _ (b4Z _)) hr;simp only[b3O,b3T] at h1;subst h1;exact CQ h2
 | _ =>
  obtain⟨z,rfl,h2⟩:=Rd.xX (jD (v:=⟨_,x⟩) rfl) h;intro u hu;simp only[b4m] at hu;subst hu;exact CQ h2
theorem dT.nI{S:Nat->Prop}{τ:Ty}:∀ {xs:List τ.den} {l:List Value},dT w S (xs.map τ.aQ) l->∀ u∈l,u.oneCell'=true
 | [],l,h=>by rw[show l=[] from h];simp
 | x::xs,l,h=>by
  obtain⟨c1,r,rfl,h2,h3⟩:=h;intro u hu;rcases b3H.1 hu with hu|hu
  .exact Rd.nI h2 u hu
  .exact dT.nI h3 u hu
def Src(w:World)(S:Nat->Prop)(τ:Ty)(ys:List τ.den)(z:Value):Prop :=
 ∃ ad cap,z = .slice ad ys.length cap/\(ys=[]\/∃ b o news,ad=some ⟨b,o,none⟩/\ct w b o news/\dT w S (ys.map τ.aQ) news)
theorem Jz{lk lk':Nat->Option aD}(cF:∀ id o,lk' id=some o->lk id=some o)(id:Nat)(o:aD)(h:QE lk' id=some o):lk id=some o:=by
 unfold QE at h;split at h
 .cases h
 .exact cF id o h
theorem a2B{lk:Nat->Option aD}(id:Nat)(τ:Ty)(xs:List τ.den):QE lk id≠some (.aw τ xs):=by
 unfold QE;split
 .simp
 .rename_i ie;exact ie _ _
theorem a4I(l5:∀ id o,lk id=some o->OR c G lk w id o){lk':Nat->Option aD}(cF:∀ id o,lk' id=some o->lk id=some o)(UA:∀ id τ xs,lk' id≠some (.aw τ xs)){τ:Ty}{v:AV}{z:Value}{ys:List τ.den}(h:jR lk' (.slice τ) v=some ys)
  (hv:C1 c G lk w v z):Src w G.S τ ys z:=by
 cases v with
 | aI u =>
  have e:=TV.aW h;subst e;obtain⟨ad,cap,h1,h2,h3,h4⟩:=jZ (show eK w G.S ⟨.slice τ,ys⟩ z from hv.2);refine⟨ad,cap,h1,h4.imp id ?_⟩;rintro⟨b,o,h5,h6,h7⟩;obtain⟨news,h8,h9⟩:=du.cells _ b o h7;exact⟨b,o,news,h5,h9,h8⟩
 | nil =>
  simp only[jR,b3C] at h;subst h;exact⟨none,0,hv, .inl rfl⟩
 | row id =>
  simp only[jR] at h;split at h
  .rename_i e bj xs hl;have e1:=TV.aW h;cases e1;have oK:=cF _ _ hl;obtain⟨l,h1,h2,h3⟩:=l5 _ _ oK;rcases h1.2 with ⟨hv',hn⟩|⟨g,cap,cur,hv',_⟩
   .exact⟨none,0,by rw[hv.1,hv',hn], .inl (b4L hn)⟩
   .refine⟨some ⟨g,0,none⟩,cap,by rw[hv.1,hv'], .inr ⟨g,0,l,rfl,?_,h2⟩⟩;intro j u hj;have:=h1.cells (g:=g) (by rw[hv'];rfl) j u hj;rw[b5S] at this;exact this
  .cases h
 | aw id =>
  simp only[jR] at h;split at h
  .rename_i hl;exact absurd hl (UA _ _ _)
  .cases h
 | _=>cases h
theorem TF{S:Nat->Prop}{base:Nat}(hE:bH c.P c.E){T:TypeId}{τ:Ty}{b e n:Nat}{v z:Value}{l:List Value}{ys:List τ.den}(hT:af c.E.ty T=some (.slice τ,b,e))(oM:w.ownsRow base e τ.size v n l)
  (a7r:base<=w.heap.size) (pF:Src w S τ ys z) (F9:aY (n+ys.length) b) (ty:TypeId) :
  ∃ v' w' news,(Builtin.append_ #[T,T] ty #[v,z]).run c.P w = .ok v' w'/\w'.ownsRow base e τ.size v' (n+ys.length) (l++news)/\w.grownBy w' v.ownBlock/\(v'.ownBlock=v.ownBlock\/v'.ownBlock=some w.heap.size) /\
   dT w S (ys.map τ.aQ) news/\n+ys.length<=140737488355328:=by
 obtain⟨k1,⟨b',e',k2⟩,i,zv,k3,k4,k5,k6,k7⟩:=hE.slice hT;have Xg:zv.cells.size=τ.size:=by
  have:=Rd.length _ (Rt (w:=w) (S:=S) k7);rwa [Ty.cP,b4K] at this
 have Qc:=τ.size_pos;have UC:(n+ys.length) * b<=140737488355328/\n+ys.length<=140737488355328:=by
  unfold aY at F9;rw[Nat.mul_add,Nat.mul_one] at F9;omega
 have Qb:n+ys.length<=maxLen:=by simp only[maxLen];omega
 obtain⟨ad,cap,h1,h4⟩:=pF;subst h1;by_cases hy:ys=[]
 .subst hy;simp only[b4b,b5D] at *
  cases ad with
  | none =>
   refine⟨v,w,[],?_,by simpa using oM,⟨rfl,rfl,rfl,Nat.le_refl _,λ _ _ _=>rfl⟩, .inl rfl,rfl,UC.2⟩;rcases oM.2 with ⟨rfl,rfl⟩|⟨g,ZA,cur,rfl,_,_,Uz,_⟩
   .simp[Builtin.append_,b4F k1,sizeOf,typeInfo,k3,Builtin.lenOf,Builtin.firstCells]
   .simp[Builtin.append_,b4F k1,sizeOf,typeInfo,k3,Builtin.lenOf,Builtin.firstCells,Uz,storeCells]
  | some ad =>
   obtain⟨v',w',m1,m2,m3,_,m5⟩:=run_append_own_at (P:=c.P) w base T ty e i zv τ.size b k1 k3 k6 k4 k5 Xg Qc v n l oM ad 0 cap [] (by simp) (by simp) (by simp) Qb UC.1 a7r;exact⟨v',w',[],m1,m2,m3,m5,rfl,UC.2⟩
 .rcases h4 with h4|⟨bk,o',news,rfl,h8,h7⟩
  .exact absurd h4 hy
  .skip;have hlen:news.length=ys.length * τ.size:=by
    have:=dT.length (n:=τ.size) _ h7 (by
     intro d hd;obtain⟨y,_,rfl⟩:=b3N.1 hd;exact Ty.cP τ y)
    simpa using this
   obtain⟨v',w',m1,m2,m3,_,m5⟩:=run_append_own_at (P:=c.P) w base T ty e i zv τ.size b k1 k3 k6 k4 k5 Xg Qc v n l oM ⟨bk,o',none⟩ ys.length cap news hlen (λ j u hj=>by rw[b5S];exact h8 j u hj) (dT.nI h7) Qb UC.1 a7r;exact⟨v',w',news,m1,m2,m3,m5,h7,UC.2⟩
theorem Wk{ev:Operand->AV}(cW:∀ x,VR c G lk w (ev x) (a.eval x)){d l:Int}{lo:Option Operand}(h:qQ d (lo.map ev)=some l):(lo=none/\l=d)\/∃ k,lo.map a.eval=some (.int k l):=by
 cases lo with
 | none =>
  simp only[b6F,qQ,b3C] at h;exact .inl ⟨rfl,h.symm⟩
 | some x =>
  simp only[b6s,qQ] at h;split at h
  .rename_i hn;cases hn
  .rename_i k n hn;simp only[b3C] at h hn;subst h;have hx:=cW x;rw[hn] at hx;obtain⟨hx,_⟩:=hx;simp only[b3O,b3T] at hx;exact .inr ⟨k,by simp[hx]⟩
  .cases h
theorem TL{ev:Operand->AV}(cW:∀ x,VR c G lk w (ev x) (a.eval x)){l h:Int}{len cap:Nat}{lo hi:Option Operand}(sl:Bool)(hl:qQ 0 (lo.map ev)=some l)(hh:qQ (len:Int) (hi.map ev)=some h)
  (hc:cw l h len) (L5:len<=cap) (P:Program) (w':World):(Instr.sliceBounds sl len cap (lo.map a.eval) (hi.map a.eval) none).run P w' = .ok (l.toNat,h.toNat,cap) w':=by
 obtain⟨h0,h1,h2⟩:=hc;have e1:(h.toNat:Int)=h:=Int.toNat_of_nonneg (by omega);rcases Wk cW hl with ⟨rfl,rfl⟩|⟨k,hk⟩<;>rcases Wk cW hh with ⟨rfl,rfl⟩|⟨k',l9⟩
 .simp[Instr.sliceBounds]
 .simp[Instr.sliceBounds,l9,b7o,show 0<=h from by omega,show h<=(cap:Int) from by omega]
 .simp[Instr.sliceBounds,hk,b7o,h0,h1]
 .simp[Instr.sliceBounds,hk,l9,b7o,h0,h1,show 0<=h from by omega,show h<=(cap:Int) from by omega,e1]
theorem T6{n m:Int}{b:Nat}(h:bI n m b):0<=n/\n<=m/\m<=140737488355328/\(b:Int) * m<=140737488355328:=by
 obtain⟨h1,h2,h3⟩:=h;have e:m * ((b:Int)+1)=m * b+m:=by rw[Int.mul_add,Int.mul_one]
 have p:0<=m * (b:Int):=Int.mul_nonneg (by omega) (by omega);have q:(b:Int) * m=m * b:=Int.mul_comm _ _;exact⟨h1,h2,by omega,by omega⟩
theorem a5Z(hE:bH c.P c.E){T:TypeId}{τ:Ty}{b e:Nat}(hT:af c.E.ty T=some (.slice τ,b,e)){n m:Int}(h:bI n m b)(w:World)
  (cv:∀ w',bE (λ _=>False) w w'->∀ b,G.S b->w'.heap[b]?=w.heap[b]?) :
  ∃ cap cs,(Instr.makeSlice T (.int .i64 n) (.int .i64 m)).run c.P w = .ok (.slice (some ⟨w.heap.size,0,none⟩) n.toNat cap) (w.alloc (.cells cs e)) /\
   a4F c G lk (w.alloc (.cells cs e)) (.slice (some ⟨w.heap.size,0,none⟩) n.toNat cap) (.row e τ (List.replicate n.toNat τ.zero)):=by
 obtain⟨v1,v2,v3,v4⟩:=T6 h;obtain⟨h1,_,i,z,h3,h4,h5,h6,h7⟩:=hE.slice hT;have hzr:=Rt (w:=w) (S:=G.S) h7;have hzl:=Rd.length _ hzr;rw[Ty.cP,b4K] at hzl;have hr:=run_make (P:=c.P) w T e i z h1 h3 h6 .i64 .i64 n m v1 v2 (by rw[h5];omega) (by omega);refine⟨m.toNat,madeCells z.cells (m.toNat * i.size),hr,(madeCells z.cells (n.toNat * z.cells.size)).toList,?_,?_,by simp;omega⟩
 .refine⟨by simp[madeCells,hzl], .inr ⟨w.heap.size,m.toNat,madeCells z.cells (m.toNat * i.size),by simp,b4O _,b6L w _,by simp;omega,by simp only[maxLen];omega,by simp[size_madeCells,h4],?_⟩⟩;rw[h4,hzl,List.length_replicate];exact Hn _ _ _ (b5L _ (by omega))
 .rw[b7C];exact dT.aR (λ _ h=>h) (cv _ (gB w _)) _ (Md hzr n.toNat)
theorem bH.map(hE:bH c.P c.E){T:TypeId}{κ ε:Ty}(h:af c.E.mty T=some (κ,ε))(w:World) :
  ∃ kT eT,c.P.underlying T=some (.map kT eT)/\c.P.underlying kT=some (descOf κ)/\κ.key=true/\ε.key=true/\∃ z,(zeroValue eT).run c.P w = .ok z w/\yV ε ε.zero z:=by
 have:=hE.mty T κ ε h;unfold XJ at this;split at this
 .rename_i k e hu;split at this
  .rename_i κ' r ε' r' hk he;simp only[b3J,b3E] at this;obtain⟨rfl,rfl,h3,h4⟩:=this;obtain⟨i,z,k1,k2,k3,k4⟩:=(hE.info he).ex;have hz:=Rt (w:=w) (S:=λ _=>False) k4;refine⟨k,e,hu,?_,h3,h4,z,by simp[zeroValue,typeInfo,k1,k3],?_⟩
   .obtain⟨b,e'⟩:=r;cases κ' with
    | int q=>exact hE.int hk
    | bool=>exact hE.bool hk
    | str=>exact hE.str hk
    | _=>cases h3
   .have hc:z.cells.toList=[z]:=by
     cases ε'<;>cases z<;>first|rfl|(cases h4;done)|(simp[C7,BC] at k4;done)
    rw[hc] at hz;exact yV.of h4 hz
  .cases this
 .cases this
theorem Oo(hE:bH c.P c.E)(hI:bw c G sl n lk a w){lk':Nat->Option aD}(cF:∀ id o,lk' id=some o->lk id=some o){ev:Operand->AV}(cW:∀ x,VR c G lk w (ev x) (a.eval x))
  {o:Oper} {vc:Vc} {v:AV} {ob:Option aD} (hq:On c.E lk' ev o=some (vc,v,ob)) (ep:vc.ok) {Q:Exit->Act->World->Prop} :
  o.wp c.P a w (BV c G sl n lk o.dst a w v ob) Q:=by
 unfold On at hq;split at hq;case h_1 x bB =>
  simp only[b3C,b3F] at hq;obtain⟨rfl,rfl,rfl⟩:=hq;exact cG hI (by simp[execOp,bB]) (cW x)
 case h_2 x bB =>
  simp only[b3C,b3F] at hq;obtain⟨rfl,rfl,rfl⟩:=hq;exact cG hI (by simp[execOp,bB]) (cW x)
 case h_3 cc x y bB =>
  split at hq
  .rename_i hc;simp only[b3C,b3F] at hq;obtain⟨rfl,rfl,rfl⟩:=hq;have h1:=cW cc;rw[hc] at h1;have h1:[a.eval cc]=[.bool true]:=h1;simp only[b3O,b3T] at h1;exact cG hI (by simp[execOp,bB,h1,asBool]) (cW x)
  .rename_i hc;simp only[b3C,b3F] at hq;obtain⟨rfl,rfl,rfl⟩:=hq;have h1:=cW cc;rw[hc] at h1;have h1:[a.eval cc]=[.bool false]:=h1;simp only[b3O,b3T] at h1;exact cG hI (by simp[execOp,bB,h1,asBool]) (cW y)
  .cases hq
 case h_4 T bB =>
  split at hq
  .rename_i d τ r hd hT;simp only[b3C,b3F] at hq;obtain⟨rfl,rfl,rfl⟩:=hq;obtain⟨i,z,h1,h2,h3,h4⟩:=(hE.info hT).ex;refine Ez hI (x := .pointer (some ⟨w.heap.size,0,none⟩)) (w':=w.alloc (.cells z.cells T)) ?_ (hI.alloc _) ⟨d,hd,rfl⟩ ?_ ?_
   .simp[execOp,bB,Instr.alloc,zeroValue,typeInfo,h1,h3,newVar,newRow]
   .exact⟨_,z.cells.toList,T,rfl,by simpa using heap_alloc_new w _,lh h4⟩
   .intro b hb;simp only[ew,b3C] at hb;subst hb;simp
  .cases hq
 case h_5 T x bB =>
  split at hq
  .rename_i d τ r hd hT;split at hq
   .split at hq
    .rename_i y hy;simp only[b3C,b3F] at hq;obtain⟨rfl,rfl,rfl⟩:=hq;have pF:=eK.cells (OW (c:=c) (G:=G) (lk:=lk) hy (cW x));have hk:=gB w (.cells (a.eval x).cells T);have cM:(w.alloc (.cells (a.eval x).cells T)).heap.size=w.heap.size+1:=by simp
     have BO:=hI.grow (S':=λ b=>G.S b\/b=w.heap.size) hk (λ b hb=>⟨λ h=>h.elim id λ e=>by omega, .inl⟩) (λ b hb=>by
      rcases hb with hb|hb
      .have:=hI.dH b hb;omega
      .omega)
     have cH:(execOp a.eval o).run c.P w = .ok (.value (.pointer (some ⟨w.heap.size,0,none⟩))) (w.alloc (.cells (a.eval x).cells T)):=by
      simp[execOp,bB,Instr.box,newVar,newRow]
     unfold Oper.wp;rw[cH];refine⟨_,_,rfl,BO,?_⟩;refine⟨w.heap.size,0,(a.eval x).cells.toList,rfl, .inl (.inr rfl),?_,Rd.aR (λ _ h => .inl h) (λ b hb=>hk.block b (hI.dH b hb) λ h=>h) _ pF⟩;have:=heap_alloc_new w (.cells (a.eval x).cells T);exact IH (p:=[]) (c:=(a.eval x).cells.toList) (r:=[]) (by simpa using this)
    .cases hq
   .split at hq
    .rename_i cs kr;simp only[b3C,b3F] at hq;obtain⟨rfl,rfl,rfl⟩:=hq;obtain⟨h1,_,_⟩:=De kr (cW x);refine Ez hI (x := .pointer (some ⟨w.heap.size,0,none⟩)) (w':=w.alloc (.cells (a.eval x).cells T)) ?_ (hI.alloc _) ⟨d,hd,rfl⟩ ?_ ?_
     .simp[execOp,bB,Instr.box,newVar,newRow]
     .exact⟨_,(a.eval x).cells.toList,T,rfl,by simpa using heap_alloc_new w _,h1.imp λ u y _ hy=>hI.b0G (gB w _) hy⟩
     .intro b hb;simp only[ew,b3C] at hb;subst hb;simp
    .cases hq
  .cases hq
 case h_6 T parts bB =>
  split at hq
  .rename_i s r hT;split at hq
   .rename_i cs kr;simp only[b3C,b3F] at hq;obtain⟨rfl,rfl,rfl⟩:=hq;obtain⟨i,z,h1,h2,h3,h4⟩:=(hE.info hT).ex;obtain⟨fs,h5,h6,h7⟩:=hE.st hT;have hpl:fs.toList.mapM (λ f=>(c.P.info? f.type).map λ i=>(f.offset,i.size))=some (fs.toList.map λ f=>(f.offset,c.P.cellsOf f.type)):=by
     have:∀ l:List Field,(∀ f∈l,∃ i,c.P.info? f.type=some i)->l.mapM (λ f=>(c.P.info? f.type).map λ i=>(f.offset,i.size))=some (l.map λ f=>(f.offset,c.P.cellsOf f.type)):=by
      intro l;induction l with
      | nil=>intro _;rfl
      | cons f l ih =>
       intro hl;obtain⟨i,hi⟩:=hl f (by simp);simp[b6d,hi,ih λ f hf=>hl f (by simp[hf]),Program.cellsOf]
     refine this _ λ f hf=>?_;obtain⟨j,hj,hjf⟩:=List.getElem_of_mem hf;obtain⟨t,b,e,_,k2,_⟩:=h7 j f (by rw[Array.getElem?_eq_getElem (by simpa using hj)];simpa using hjf);obtain⟨i,_,hi,_⟩:=(hE.info k2).ex;exact⟨i,hi⟩
    have a8Y:∀ i t,s.fU[i]?=some t->(fs.toList.map λ f=>(f.offset,c.P.cellsOf f.type)).toArray[i]?=some (s.fA i,t.size):=by
     intro i t hi;have bN:i<fs.size:=by have:=(b4B.1 hi).1;omega
     obtain⟨t',b,e,k1,k2,k3⟩:=h7 i fs[i] (b4R bN);rw[hi] at k1;simp only[b3C] at k1;subst k1;obtain⟨i',_,oe,cM,_⟩:=(hE.info k2).ex;simp[bN,k3,Program.cellsOf,oe,cM]
    obtain⟨l',h8,h9⟩:=Mj (c:=c) (G:=G) (lk:=lk) (w:=w) a8Y kr (aV.Kn cW _) (lh h4);have hb:c.P.built T ((parts.map λ (i,x)=>(i,a.eval x)).toList)=some l'.toArray:=by
     unfold Program.built;rw[h1,h5];simp only[h3,hpl];rw[<-h8];congr 1;simp
    refine cG hI (x := .agg l'.toArray) ?_ ⟨l',rfl,h9⟩;simp[execOp,bB,run_build w T _ _ hb]
   .cases hq
  .cases hq
 case h_7 T len parts bB =>
  split at hq
  .rename_i d τ b e hd hT;split at hq
   .rename_i hlen;split at hq
    .rename_i xs lB;simp only[b3J] at hlen;have hl1:=b3G hlen.1;have hl2:=b4w hlen.2;subst hl1;obtain⟨h1,⟨b',e',h2⟩,i,z,h3,h4,h5,h6,h7⟩:=hE.slice hT;have Qc:=τ.size_pos;have Qb:τ.size<=100:=Ty.size_le τ;have P3:parts.size * τ.size<=16777216:=b5v (b6M hl2 Qb) (by decide);obtain⟨r,h8,h9⟩:=L0 (c:=c) (G:=G) (lk:=lk) (w:=w) (τ:=τ) (place:=λ i=>some (i * τ.size,τ.size)) (λ _=>rfl) (l:=((Array.range (parts.size * τ.size)).map (λ j=>((if parts.size * τ.size=0 then #[] else z.cells:Array Value)[j % (if parts.size * τ.size=0 then #[] else z.cells:Array Value).size]!))).toList) lB (aV.Kn cW _) (by simp);have xp:=Ha lB;simp only[b3Y,b4K] at xp;have cM:∀ d∈xs.map τ.aQ,d.size=τ.size:=by
      intro d hd;obtain⟨y,_,rfl⟩:=b3N.1 hd;exact Ty.cP τ y
     have hrl:=dT.length _ h9 cM;simp only[b3Y,xp] at hrl;simp only[b6E,b4I,b4i,b4N] at h8;have cH:(execOp a.eval o).run c.P w = .ok (.value (.slice (some ⟨w.heap.size,0,none⟩) parts.size parts.size)) (w.alloc (.cells r.toArray e)):=by
      have e2:(parts.map λ (i,x)=>(i,a.eval x)).toList=parts.toList.map λ p=>(p.1,a.eval p.2):=by simp
      have ie:¬ (parts.size * τ.size>2 ^ 24):=by omega
      simp only[execOp,bB,Instr.buildSlice,b4q,b4F h1,b4g,hE.sizeOf h2,b3R ie,b4s];by_cases h0:parts.size * τ.size=0
      .simp only[h0,b5y,b4q,b4s,b4g,e2] at h8 ⊢;rw[h8];simp[newRow]
      .simp only[h0,b6B,b4q,zeroValue,typeInfo,run_program,b4g,h3,h6,b4s,e2] at h8 ⊢;rw[h8];simp[newRow]
     have ho:(w.alloc (.cells r.toArray e)).ownsRow 0 e τ.size (.slice (some ⟨w.heap.size,0,none⟩) parts.size parts.size) xs.length r:=by
      rw[xp];have:=World.ownsRow_lit (base:=0) (e:=e) (size:=τ.size) w r.toArray parts.size (Nat.zero_le _) (by simp only[maxLen];omega) (by simpa using hrl);simpa using this
     have pF:=dT.aR (λ _ h=>h) (λ b hb=>hI.a1s (gB w (.cells r.toArray e)) b (.inl hb)) _ h9;have iD:∀ b,ew (.slice (some ⟨w.heap.size,0,none⟩) parts.size parts.size)=some b->w.heap.size<=b/\b<(w.alloc (.cells r.toArray e)).heap.size:=by
      intro b hb;simp only[ew,b3C] at hb;subst hb;simp
     split at hq
     .simp only[b3C,b3F] at hq;obtain⟨rfl,rfl,rfl⟩:=hq;exact a5K hI cH (gB w _) ho pF (by omega) iD
     .simp only[b3C,b3F] at hq;obtain⟨rfl,rfl,rfl⟩:=hq;exact Ez hI cH (hI.alloc _) ⟨d,hd,rfl⟩ ⟨r,ho,pF,by omega⟩ iD
    .cases hq
   .cases hq
  .cases hq
 case h_8 T ad bB =>
  split at hq
  .rename_i τ r hT;split at hq
   .rename_i u hu;simp only[b3C,b3F] at hq;obtain⟨rfl,rfl,rfl⟩:=hq;obtain⟨b,o',cs,h1,h2,h3,h4⟩:=rV hI.aN cF hu (cW ad);refine cG hI ?_ h4;simp only[execOp,bB,h1,b4q,mY hE hT h2 h3,b4g,b4s]
   .cases hq
  .cases hq
 case h_9 x bB =>
  have key:∀ u,ev x=u->(∃ b o,a.eval x = .pointer (some ⟨b,o,none⟩))->vc = .none->v=u->ob=none->o.wp c.P a w (BV c G sl n lk o.dst a w v ob) Q:=by
   rintro u hu ⟨b,o',hx⟩ _ rfl rfl;refine cG hI (x:=a.eval x) ?_ (hu ▸ cW x);simp only[execOp,bB,hx,b4s]
  have hx:=cW x;split at hq
  .rename_i u hu;simp only[b3C,b3F] at hq;rw[hu] at hx;obtain⟨b,o',cs,h1,_⟩:=hx;exact key _ hu ⟨b,o',h1⟩ hq.1.symm hq.2.1.symm hq.2.2.symm
  .rename_i id off hu;simp only[b3C,b3F] at hq;rw[hu] at hx;obtain⟨b,_,h1,_⟩:=hx;exact key _ hu ⟨b,off,h1⟩ hq.1.symm hq.2.1.symm hq.2.2.symm
  .rename_i id i off hu;simp only[b3C,b3F] at hq;rw[hu] at hx;obtain⟨b,_,_,_,_,_,_,_,_,h1⟩:=hx;exact key _ hu ⟨b,_,h1⟩ hq.1.symm hq.2.1.symm hq.2.2.symm
  .cases hq
 case h_10 T x i bB =>
  split at hq
  .rename_i s r hT;have hx:=cW x;split at hq
   .rename_i u hu;rw[hu] at hx;split at hq
    .rename_i y hy;have e:=TV.aW hy;subst e;split at hq
     .rename_i f hf;simp only[b3C,b3F] at hq;obtain⟨rfl,rfl,rfl⟩:=hq;obtain⟨b,o',cs,h1,h2,h3,h4⟩:=hx;have bN:i<s.fU.length:=by
       have:=(b4B.1 hf).1;rw[<-aS.Ci s y,b3Y];exact this
      refine cG hI (x := .pointer (some ⟨b,o'+s.fA i,none⟩)) ?_ ?_
      .simp only[execOp,bB,h1,b4q,kQ hE hT bN,b4g,b4s]
      .refine⟨b,o'+s.fA i,(cs.drop (s.fA i)).take f.τ.size,rfl,h2,h3.part _ _,?_⟩;exact IN hf h4
     .cases hq
    .cases hq
   .rename_i id off hu;rw[hu] at hx;split at hq
    .rename_i bN;simp only[Option.some.injEq,Prod.mk.injEq] at hq;obtain⟨rfl,rfl,rfl⟩:=hq;have bN:i<s.fU.length:=by simpa [Nat.blt_eq] using bN
     obtain⟨b,h1,h2,h3⟩:=hx;refine cG hI (x := .pointer (some ⟨b,off+s.fA i,none⟩)) ?_ ⟨b,h1,rfl,h3⟩;simp only[execOp,bB,h2,b4q,kQ hE hT bN,b4g,b4s]
    .cases hq
   .rename_i id k off hu;rw[hu] at hx;split at hq
    .rename_i bN;simp only[Option.some.injEq,Prod.mk.injEq] at hq;obtain⟨rfl,rfl,rfl⟩:=hq;have bN:i<s.fU.length:=by simpa [Nat.blt_eq] using bN
     obtain⟨b,m,cap,e,τ,xs,h1,h2,h3,h4⟩:=hx;refine cG hI (x := .pointer (some ⟨b,k * τ.size+(off+s.fA i),none⟩)) ?_ ⟨b,m,cap,e,τ,xs,h1,h2,h3,rfl⟩;simp only[execOp,bB,h4,b4q,kQ hE hT bN,b4g,b4s,b6A]
    .cases hq
   .cases hq
  .cases hq
 case h_11 T x i bB =>
  split at hq
  .rename_i s r hT;have hx:=cW x;split at hq
   .rename_i u hu;rw[hu] at hx;split at hq
    .rename_i y hy;have e:=TV.aW hy;subst e;split at hq
     .rename_i f hf;simp only[b3C,b3F] at hq;obtain⟨rfl,rfl,rfl⟩:=hq;obtain⟨cs,h1,h2⟩:=hx;have hty:s.fU[i]?=some f.τ:=by rw[<-aS.Ci s y,b5z,hf];rfl
      obtain⟨h3,h4⟩:=a2a hf h2;refine cG hI (x:=Lr f.τ ((cs.drop (s.fA i)).take f.τ.size)) ?_ (eK.mk_ (IN hf h2));simp only[execOp,bB,h1,b4q,Yn hE hT hty h3,b4g,b4s]
     .cases hq
    .cases hq
   .rename_i cs hu;rw[hu] at hx;split at hq
    .rename_i τ jx;split at hq
     .rename_i u hg;simp only[b3C,b3F] at hq;obtain⟨rfl,rfl,rfl⟩:=hq;obtain⟨l,h1,h2⟩:=hx;obtain⟨h3,h4,h5⟩:=IU h2 hg;refine cG hI (x:=Lr τ ((l.drop (s.fA i)).take τ.size)) ?_ h3;simp only[execOp,bB,h1,b4q,Yn hE hT jx h5,b4g,b4s]
     .cases hq
    .cases hq
   .cases hq
  .cases hq
 case h_12 T x ix bB =>
  split at hq
  .rename_i τ r hT;split at hq
   .rename_i k i hi;have xn:=cW ix;rw[hi] at xn;obtain⟨xn,_⟩:=xn;simp only[b3O,b3T] at xn;have hx:=cW x;split at hq
    .rename_i u hu;rw[hu] at hx;split at hq
     .rename_i xs lB;have e:=TV.aW lB;subst e;simp only[b3C,b3F] at hq;obtain⟨rfl,rfl,rfl⟩:=hq;obtain⟨h0,h1⟩:=ep;obtain⟨ad,cap,h2,h3,h4,h5⟩:=jZ hx;rcases h5 with h5|⟨b,o',h5,h6,h7⟩
      .subst h5;simp only[b4b] at h1;omega
      .subst h5;have bN:i.toNat<xs.length:=by omega
       obtain⟨cs,m1,m2,m3⟩:=du.at_ (n:=τ.size) _ b o' h7 (by
        intro d hd;obtain⟨y,_,rfl⟩:=b3N.1 hd;exact Ty.cP τ y) i.toNat (τ.aQ (xs.getD i.toNat τ.zero)) (by simp[List.getD,bN])
       refine cG hI (x := .pointer (some ⟨b,o'+i.toNat * τ.size,none⟩)) ?_ ⟨b,_,cs,rfl, .inl h6,m3,m2⟩;simp only[execOp,bB,h2,xn,b4q,sx hE hT h0 h1,b4g,b4s]
     .cases hq
    .rename_i id hu;rw[hu] at hx;split at hq
     .rename_i e' bj xs hl;split at hq
      .rename_i jx;have jx:=b4u jx;subst jx;simp only[b3C,b3F] at hq;obtain⟨rfl,rfl,rfl⟩:=hq;obtain⟨h0,h1⟩:=ep;obtain⟨h2,_,_⟩:=hx;have oK:=cF _ _ hl;obtain⟨l,m1,_,_⟩:=hI.aN _ _ oK;have bN:i.toNat<xs.length:=by omega
       rcases m1.2 with ⟨_,hn⟩|⟨g,cap,cur,hv,_⟩
       .omega
       .refine cG hI (x := .pointer (some ⟨g,0+i.toNat * bj.size,none⟩)) ?_ ⟨g,_,cap,e',bj,xs,hv,oK,bN,by simp⟩;simp only[execOp,bB,h2,hv,xn,b4q,sx hE hT h0 h1,b4g,b4s]
      .cases hq
     .cases hq
    .cases hq
   .cases hq
  .cases hq
 case h_13 T x ix bB =>
  split at hq
  .rename_i r hT;split at hq
   .rename_i k i hi;have xn:=cW ix;rw[hi] at xn;obtain⟨xn,_⟩:=xn;simp only[b3O,b3T] at xn;have hx:=cW x;split at hq
    .rename_i xs hu;rw[hu] at hx;simp only[Option.some.injEq,Prod.mk.injEq] at hq;obtain⟨rfl,rfl,rfl⟩:=hq;obtain⟨s,h1,h2,h3⟩:=hx;simp only[List.cons.injEq,and_true] at h1;subst h2;have cM:s.data.toList.length=s.size:=Array.length_toList;have ep:ak i s.data.toList.length:=ep;unfold ak at ep;rw[cM] at ep;have bN:Int.toNat i<s.size:=by omega
     have he:s.data.toList.getD (Int.toNat i) 0=s[Int.toNat i]'bN:=by
      have h5:Int.toNat i<s.data.size:=bN;rw[List.getD_eq_getElem?_getD,List.getElem?_eq_getElem (by simpa using h5)];rfl
     have hr:(execOp a.eval o).run c.P w = .ok (.value (.int .u8 (s[Int.toNat i]'bN).toNat)) w:=by
      simp only[execOp,bB,h1,xn,b4q,run_index_string w T s k i (hE.str hT)];rw[dif_pos ep];rfl
     refine cG hI hr ⟨by rw[he],?_⟩;have:=(s.data.toList.getD (Int.toNat i) 0).toNat_lt;exact⟨Int.natCast_nonneg _,by simp only[IntKind.max,IntKind.signed,IntKind.bits,b3L,b6B];omega⟩
    .cases hq
   .cases hq
  .cases hq
 case h_14 op T x y yt bB =>
  split at hq
  .rename_i p u hu;simp only[b3C,b3F] at hq;obtain⟨rfl,rfl,rfl⟩:=hq;obtain⟨z,h1,h2⟩:=a2A hE x y hu ep (cW x) (cW y);refine cG hI ?_ h2;simp only[execOp,bB];rw[b4q,h1];rfl
  .split at hq
   .rename_i p u hu;simp only[b3C,b3F] at hq;obtain⟨rfl,rfl,rfl⟩:=hq;obtain⟨z,h1,h2⟩:=a3t hE x y hu ep (cW x) (cW y);refine cG hI ?_ h2;simp only[execOp,bB];rw[b4q,h1];rfl
   .cases hq
 case h_15 op xt x bB =>
  split at hq
  .rename_i b hb;simp only[b3C,b3F] at hq;obtain⟨rfl,rfl,rfl⟩:=hq;have hx:=cW x;rw[hb] at hx;have hx:[a.eval x]=[.bool b]:=hx;simp only[b3O,b3T] at hx;exact cG hI (x := .bool !b) (by simp[execOp,bB,hx,Op.unary]) rfl
  .rename_i k i hb;simp only[b3C,b3F] at hq;obtain⟨rfl,rfl,rfl⟩:=hq;have hx:=cW x;rw[hb] at hx;obtain⟨hx,_⟩:=hx;simp only[b3O,b3T] at hx;have hr:=eI ep;have h0:(0:Int) - i = -i:=Int.zero_sub _;exact cG hI (x := .int k (-i)) (by simp[execOp,bB,hx,Op.unary,Op.intArith,h0,wD hr]) ⟨rfl,hr⟩
  .cases hq
 case h_16 src dst x bB =>
  split at hq
  .rename_i k1 r1 k2 r2 hs hd;split at hq
   .rename_i k3 i EP;simp only[b3C,b3F] at hq;obtain⟨rfl,rfl,rfl⟩:=hq;have hx:=cW x;rw[EP] at hx;obtain⟨hx,_⟩:=hx;simp only[b3O,b3T] at hx;have hr:=eI ep;refine cG hI (x := .int k2 i) ?_ ⟨rfl,hr⟩;simp[execOp,bB,hx,convert,b4F (hE.int hs),b4F (hE.int hd),Conv.intToInt,wD hr]
   .cases hq
  .cases hq
 case h_18 t i bB =>
  split at hq
  .rename_i vs ht;split at hq
   .rename_i u hu;simp only[b3C,b3F] at hq;obtain⟨rfl,rfl,rfl⟩:=hq;have hx:=cW t;rw[ht] at hx;obtain⟨l,h1,h2⟩:=hx;obtain⟨z,h3,h4⟩:=h2.at_ i u hu;refine cG hI (x:=z) ?_ ?_
    .simp[execOp,bB,Instr.extract,h1,h3]
    .cases u<;>first|exact h4|exact h4.elim|trivial
   .cases hq
  .cases hq
 case h_19 T l cc bB =>
  split at hq
  .rename_i d τ b e hd hT;split at hq
   .rename_i m m' hm hm';simp only[b3C,b3F] at hq;obtain⟨rfl,rfl,rfl⟩:=hq;have hl:=cW l;have hc:=cW cc;rw[hm] at hl;rw[hm'] at hc;obtain⟨hl,_⟩:=hl;obtain⟨hc,_⟩:=hc;simp only[b3O,b3T] at hl hc;obtain⟨cap,cs,h1,h2⟩:=a5Z (c:=c) (G:=G) (lk:=lk) hE hT ep w (λ w' hk b hb=>hI.a1s hk b (.inl hb));refine Ez hI ?_ (hI.alloc _) ⟨d,hd,rfl⟩ h2 ?_
    .simp only[execOp,bB,hl,hc,b4q,h1,b4g,b4s]
    .intro b hb;simp only[ew,b3C] at hb;subst hb;simp
   .cases hq
  .cases hq
 case h_17 T x lo hi mx bB =>
  split at hq
  .rename_i τ r hT;have hx:=cW x;split at hq
   .rename_i u hu;rw[hu] at hx;split at hq
    .rename_i xs lB;have e:=TV.aW lB;subst e;split at hq
     .rename_i l h hl hh;simp only[b3C,b3F] at hq;obtain⟨rfl,rfl,rfl⟩:=hq;obtain⟨ad,cap,h2,h3,h4,h5⟩:=jZ hx;obtain⟨k1,⟨b',e',k2⟩,_⟩:=hE.slice hT;have hb:=TL cW true hl hh ep h3 c.P w;obtain⟨v0,v1,v2⟩:=ep;have cH:(execOp a.eval o).run c.P w = .ok (.value (.slice (if cap=l.toNat then ad else ad.map (·.add (l.toNat * τ.size))) (h.toNat - l.toNat) (cap - l.toNat))) w:=by
       simp only[execOp,bB,h2,Instr.sliceAt,b4q,b4F k1,b4g,Instr.slice,b6F,hb,hE.sizeOf k2,b4s]
      refine cG hI cH ?_;have hlen:((xs.take h.toNat).drop l.toNat).length=h.toNat - l.toNat:=by
       rw[b4V,b4e];omega
      refine a6r hlen (by omega) ?_ (by omega) ?_
      .have:=hx;obtain⟨ad',ZA,m1,m2,m3,_⟩:=this;rw[h2] at m1;simp only[b3O,b5q,b3T] at m1;obtain⟨_,_,rfl⟩:=m1;omega
      .rcases b4J l.toNat h.toNat with bN|hge
       .right;rcases h5 with h5|⟨b,o',rfl,h6,h7⟩
        .subst h5;simp only[b4b] at v2;omega
        .refine⟨b,o'+l.toNat * τ.size,?_,h6,?_⟩
         .rw[b3R (by omega)];simp[b5S]
         .rw[List.map_drop,List.map_take];refine du.a7j _ _ _ _ (du.a8v _ _ _ _ h7) ?_;intro d hd;obtain⟨y,_,rfl⟩:=b3N.1 (List.mem_of_mem_take hd);exact Ty.cP τ y
       .left;exact b4L (by omega)
     .cases hq
    .cases hq
   .cases hq
  .rename_i r hT;have hx:=cW x;split at hq
   .rename_i xs hu;rw[hu] at hx;split at hq
    .rename_i l h hl hh;simp only[b3C,b3F] at hq;obtain⟨rfl,rfl,rfl⟩:=hq;obtain⟨s,h1,h2,h3⟩:=hx;simp only[b3O,b3T] at h1;subst h2;have cM:s.data.toList.length=s.size:=b4K;rw[cM] at ep hh;have hb:=TL cW false hl hh ep (b4r _) c.P w;obtain⟨v0,v1,v2⟩:=ep;refine cG hI (x := .string (s.extract l.toNat h.toNat)) ?_ ⟨_,rfl,?_,?_⟩
     .have ie:¬ ((none:Option Value).isSome=true):=by simp
      simp only[execOp,bB,h1,Instr.sliceAt,b4q,b4F (hE.str hT),b4g,Instr.slice,b6F,b3R ie,hb,b4s]
     .rw[Lib.extract_data,List.drop_take]
     .have:(s.extract l.toNat h.toNat).size<=s.size:=by
       rw[ByteArray.size_extract];omega
      omega
    .cases hq
   .cases hq
  .cases hq
 case h_20 cl bB =>
  have dF:=aV.pj cW cl.args.toList;split at hq
  .rename_i gT;split at hq
   .rename_i T v1 hTs Dt;rw[Dt] at dF;match lB:cl.args.toList.map a.eval,dF with
    | [x],dF =>
     have hx:=dF.1;have PY:cl.argTypes = #[T]:=by rw[<-b4N (xs:=cl.argTypes),hTs]
     have I7:cl.args.map a.eval = #[x]:=by rw[<-b4N (xs:=cl.args.map a.eval),b5F,lB]
     have WZ:(execOp a.eval o)=(do let d <-resolve a.eval cl o.type;invoke d.target d.args):=by simp[execOp,bB]
     have TX:(execOp a.eval o).run c.P w=((Builtin.len_ #[T] o.type #[x]).run c.P w).andThen λ v w => .ok (.value v) w:=by
      rw[WZ];simp[resolve,gT,invoke,builtin,PY,I7]
     split at hq
     .rename_i t r hT;obtain⟨k1,_,_⟩:=hE.slice hT;have hel:c.P.elem T=r.2:=by simp[Program.elem,k1]
      have cH:∀ ad len cap,x = .slice ad len cap->(execOp a.eval o).run c.P w = .ok (.value (.int .i64 len)) w:=by
       intro ad len cap hxx;rw[TX,hxx,run_len_slice w T o.type ad len cap (by rw[hel];exact k1)];rfl
      have eY:∀ m:Nat,m<=140737488355328->IntKind.i64.min<=(m:Int)/\(m:Int)<=IntKind.i64.max:=λ m hm=>eI (k := .i64) ⟨by omega,by omega⟩;split at hq
      .simp only[b3C,b3F] at hq;obtain⟨rfl,rfl,rfl⟩:=hq;exact cG hI (cH _ _ _ hx) ⟨rfl,eY 0 (by omega)⟩
      .rename_i t' xs;simp only[b3C,b3F] at hq;obtain⟨rfl,rfl,rfl⟩:=hq;obtain⟨ad,cap,h2,h3,h4,h5⟩:=jZ hx;exact cG hI (cH _ _ _ h2) ⟨rfl,eY _ h4⟩
      .rename_i id;split at hq
       .rename_i e' bj xs hl;simp only[b3C,b3F] at hq;obtain⟨rfl,rfl,rfl⟩:=hq;obtain⟨h2,_,_⟩:=hx;have oK:=cF _ _ hl;obtain⟨ad,cap,h3,_,h4,_⟩:=jZ (t:=bj) (a5u (hI.aN _ _ oK) oK);exact cG hI (cH _ _ _ (h2.trans h3)) ⟨rfl,eY _ h4⟩
       .cases hq
      .cases hq
     .rename_i r hT;split at hq
      .rename_i xs;simp only[b3C,b3F] at hq;obtain⟨rfl,rfl,rfl⟩:=hq;obtain⟨s,h1,h2,h3⟩:=hx;simp only[b3O,b3T] at h1;subst h2;have cM:s.data.toList.length=s.size:=b4K;have eY:bQ .i64 (s.size:Int):=⟨by omega,by omega⟩;refine cG hI (x := .int .i64 s.size) ?_ ⟨by rw[cM],by rw[cM];exact eI eY⟩;rw[TX,h1,run_len_string w T o.type s (hE.str hT)];rfl
      .cases hq
     .rename_i hT;split at hq
      .cases hq
      .cases hq
     .cases hq
   .cases hq
  .rename_i gT;split at hq
   .rename_i d T T' hd hTs;split at hq
    .rename_i τ b e WT hT;split at hq
     .rename_i y Dt;split at hq
      .rename_i ys R5;simp only[b3C,b3F] at hq;obtain⟨rfl,rfl,rfl⟩:=hq;have WT:=b3G WT;subst WT;rw[Dt] at dF;match lB:cl.args.toList.map a.eval,dF with
       | [x,z],dF =>
        obtain⟨hx,hz,_⟩:=dF;have hx:x = .slice none 0 0:=hx;subst hx;have PY:cl.argTypes = #[T,T]:=by rw[<-b4N (xs:=cl.argTypes),hTs]
        have I7:cl.args.map a.eval = #[.slice none 0 0,z]:=by rw[<-b4N (xs:=cl.args.map a.eval),b5F,lB]
        have TX:(execOp a.eval o).run c.P w=((Builtin.append_ #[T,T] o.type #[.slice none 0 0,z]).run c.P w).andThen λ v w => .ok (.value v) w:=by
         simp[execOp,bB,resolve,gT,invoke,builtin,PY,I7]
        have hzc:C1 c G lk w y z:=by
         refine hz.a0t ?_;cases y with
         | aI u =>
          have e:=TV.aW R5;subst e;rfl
         | nil=>rfl
         | row i=>rfl
         | aw i=>rfl
         | _=>cases R5
        have pF:=a4I hI.aN (Jz cF) a2B R5 hzc;obtain⟨v',w',news,m1,m2,m3,m4,m5,m6⟩:=TF (w:=w) (base:=w.heap.size) hE hT (World.ownsRow_nil w _ e τ.size) (Nat.le_refl _) pF (n:=0) (by rw[Nat.zero_add];exact ep) o.type;have hk:bE (λ _=>False) w w':=⟨m3.os,m3.tape,m3.output,m3.size,λ b hb _=>m3.block b hb (by simp[Value.ownBlock])⟩;simp only[Nat.zero_add,List.nil_append] at m2;refine Ez hI (x:=v') (w':=w') ?_ (hI.grow (S':=G.S) hk (λ _ _=>Iff.rfl) (λ b hb=>Nat.lt_of_lt_of_le (hI.dH b hb) hk.size)) ⟨d,hd,rfl⟩ ⟨news,?_,?_,by simpa using m6⟩ ?_
        .rw[TX,m1];rfl
        .exact⟨m2.1,m2.2.imp id λ ⟨g,cap,cur,q1,q2,q3⟩=>⟨g,cap,cur,q1,b4O _,q3⟩⟩
        .exact dT.aR (λ _ h=>h) (λ b hb=>hI.a1s hk b (.inl hb)) _ m5
        .intro b hb;have UB:=(uC (w:=w') (v:=v') (e:=e) ⟨m2.1,m2.2.imp id λ ⟨g,cap,cur,q1,q2,q3⟩=>⟨g,cap,cur,q1,b4O _,q3⟩⟩);have cz:v'.ownBlock=some b:=UB.trans hb;exact m2.lt b cz
      .cases hq
     .cases hq
    .cases hq
   .cases hq
  .rename_i gT;split at hq
   .rename_i k m k' n Dt;split at hq
    .rename_i hk;have hk:=b4u hk;subst hk;simp only[b3C,b3F] at hq;obtain⟨rfl,rfl,rfl⟩:=hq;rw[Dt] at dF;match lB:cl.args.toList.map a.eval,dF with
     | [x,z],dF =>
      obtain⟨⟨hx,hx2⟩,⟨hz,hz2⟩,_⟩:=dF;simp only[b3O,b3T] at hx hz;subst hx hz;have I7:cl.args.map a.eval = #[.int k' m, .int k' n]:=by rw[<-b4N (xs:=cl.args.map a.eval),b5F,lB]
      refine cG hI (x := .int k' (max m n)) ?_ ⟨rfl,?_⟩
      .have hm:=a9c m n;simp[execOp,bB,resolve,gT,invoke,builtin,I7,Builtin.max_,Builtin.max2];exact hm
      .exact a9d _ _ _ _ hx2 hz2
    .cases hq
   .cases hq
  .rename_i f gT;exact TN hE hI cF hq ep dF (λ od=>gX bB gT rfl od)
  .rename_i t gT;split at hq
   .rename_i f hf;have hx:=cW (.tmp t);rw[hf] at hx;exact TN hE hI cF hq ep dF (λ od=>gX bB gT hx od)
   .rename_i f cs hf;have hx:=cW (.tmp t);rw[hf] at hx;exact IF hE hI cF hq ep dF bB gT hx
   .rename_i v hf;have hx:=cW (.tmp t);rw[hf] at hx;exact IF hE hI cF hq ep dF bB gT hx
   .cases hq
  .cases hq
 case h_21 T bB =>
  cases hq
 case h_22 T x ix ok bB=>cases hq
 case h_23 fn first captured bB =>
  split at hq
  .rename_i f a8U L5;have kr:=aV.pj cW captured.toList;have cH:(execOp a.eval o).run c.P w = .ok (.value (.func (.func f) #[] (captured.toList.map a.eval).toArray)) w:=by
    have hf:first = #[]:=by rw[<-b4N (xs:=first),a8U]
    simp[execOp,bB,Instr.makeFunc,hf];apply b7r;simp
   split at hq
   .rename_i vR;simp only[b3C,b3F] at hq;obtain⟨rfl,rfl,rfl⟩:=hq;rw[vR] at kr;match hl:captured.toList.map a.eval,kr with
    | [],_ =>
     rw[hl] at cH;exact cG hI cH rfl
   .simp only[b3C,b3F] at hq;obtain⟨rfl,rfl,rfl⟩:=hq;exact cG hI cH ⟨_,rfl,kr.imp λ u y hu hy=>hy.a3b (b4C.1 L5 u hu)⟩
  .cases hq
 case h_24=>cases hq
end
end Go.Proofs.YtmjfpcajohhbeaaGreatDoor

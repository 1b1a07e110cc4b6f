/- VmTypes, VmCore, VmRead, VmOwn, VmMap, VmInv, VmEnv, VmVals, VmRuns, VmMake, VmOps, VmEff. -/
import Derived.KernelRfl
import GoSem.Claim
import Derived.Orders
import Derived.Laws.AppendOwn
import Derived.Laws.OwnMore
import Derived.Below
import Derived.MapKept
import Derived.Calls
import Derived.Laws.Cells
import Derived.Laws.Slices
import Derived.Laws.Strings
import Derived.Maps.AppendAt
import Derived.IntWalk
import Derived.Laws.Small
import Derived.Laws.CopyRow
import Derived.Lib.Strings
set_option linter.all false
namespace Go.Proofs.YtmjfpcajohhbeaaGreatDoor
def a9G:=@Option.bind_eq_some_iff
def a8o:=@Option.some.injEq
def a9k:=@List.map_cons
def b0j:=@List.map_nil
def a8z:=@List.cons.injEq
def a8F:=@and_true
def b1a:=@Go.World.cell?_of_block
def a9C:=@Nat.add_mul
def a8K:=@List.length_append
def a8C:=@List.length_cons
def b0s:=@List.getElem?_append_left
def a9g:=@List.getElem?_eq_some_iff
def b1j:=@Nat.add_assoc
def a9t:=@Nat.lt_or_ge
def b0e:=@List.getElem?_append_right
def b0F:=@List.drop_eq_nil_of_le
def a8T:=@List.nil_append
def b0y:=@Nat.add_sub_cancel_left
def a8r:=@Bool.and_eq_true
def a9Y:=@List.drop_drop
def b0B:=@List.drop_left
def b1U:=@List.take_append
def a9d:=@List.take_of_length_le
def b1z:=@Nat.zero_mul
def b0C:=@List.drop_zero
def b0D:=@List.take_left
def a9D:=@List.take_zero
def a9Z:=@Nat.zero_add
def b2u:=@List.set_cons_zero
def a9Q:=@List.mem_of_getElem?
def a9s:=@Go.run_underlying
def b0T:=@Go.MapKept.run_getObj_map
def b1u:=@List.getElem?_cons_zero
def b1p:=@List.pairwise_cons
def b1L:=@Array.toList_push
def a9q:=@List.mem_singleton
def a8t:=@List.mem_append
def b1M:=@List.ext_getElem?
def b1N:=@List.getElem?_set
def a8O:=@if_pos
def b0z:=@List.getElem_of_mem
def a9M:=@List.getElem_mem
def a9i:=@Nat.le_refl
def b0N:=@Nat.le_trans
def a8G:=@Nat.lt_of_lt_of_le
def a8I:=@List.mem_cons
def b0w:=@Iff.rfl
def a9n:=@Array.getD_eq_getD_getElem?
def b1F:=@Array.getElem?_setIfInBounds
def a9m:=@Option.map_eq_some_iff
def a8y:=@if_neg
def b0r:=@if_true
def a8s:=@Nat.eq_of_beq_eq_true
def a9e:=@of_decide_eq_true
def b0p:=@Go.Addr.add_lit
def a8Y:=@Go.Sem.run_bind
def a8Z:=@Go.Sem.run_pure
def a8Q:=@Go.Result.andThen_ok
def b0k:=@Nat.add_zero
def a9E:=@List.eq_nil_of_length_eq_zero
def a9U:=@Go.Value.tuple.injEq
def b1b:=@List.toArray_inj
def a8P:=@List.getElem?_eq_getElem
def b0I:=@Option.some.inj
def a9a:=@List.all_eq_true
def b0h:=@List.drop_eq_getElem_cons
def a9u:=@Nat.le_of_ble_eq_true
def a8U:=@List.length_take
def a9w:=@List.length_drop
def a9R:=@List.getElem?_take
def b0l:=@List.getElem?_drop
def a8A:=@List.mem_map
def b1k:=@Go.Value.pointer.injEq
def b0x:=@Go.Addr.mk.injEq
def b1Z:=@eq_of_heq
def b1v:=@Int.eq_ofNat_of_zero_le
def a8E:=@Int.toNat_natCast
def a8u:=@Prod.mk.injEq
def b2q:=@Go.ByteArray.toList_eq
def b1A:=@Bool.eq_iff_iff
def b1O:=@Go.eqGuard_at_string
def a9v:=@Array.length_toList
def a9H:=@Array.getElem?_eq_getElem
def b2i:=@Array.ext'
def a8w:=@Bool.false_eq_true
def b1q:=@if_false
def b0A:=@List.take_succ_cons
def b1m:=@List.foldl_cons
def a9r:=@List.append_assoc
def a8N:=@List.length_nil
def b1c:=@List.take_length
def a9N:=@List.append_nil
def b1d:=@List.replicate_succ'
def a8R:=@List.length_map
def b1P:=@List.flatMap_cons
def b2o:=@List.sum_cons
def b2x:=@Nat.mul_one
def b1B:=@Option.map_none
def b1n:=@Option.map_some
def b2e:=@Go.run_sliceBound
def a9J:=@Nat.zero_le
def b0U:=@Go.heap_alloc_new
def b0t:=@Nat.mul_le_mul_right
def b2v:=@List.map_replicate
def a8p:=@decide_eq_true_eq
def b0V:=@List.mapM_cons
def a9A:=@Array.toArray_toList
def a9W:=@List.getElem?_map
def b0g:=@Go.Value.slice.injEq
def b1G:=@List.drop_take
def b0q:=@Array.toList_map
def a8H:=@List.getD_eq_getElem?_getD
def b0P:=@Array.eq_empty_of_size_eq_zero
def b2b:=@Go.setRow_heap
def b0b:=@List.length_set
def b0W:=@List.map_set
def b0n:=@List.map_append
def Y1:List Nat:=[0]
inductive D where
 | int (k:IntKind) (n:Int)
 | bool (b:Bool)
 | str (s:List UInt8)
 | slice (n:Nat) (xs:List D)
 | agg (xs:List D)
 | hole
 | ptr
def mvD{α:Type}(n:Nat)(f:α->D):Option (List α)->D
 | none => .hole
 | some l => .slice n (l.map f)
inductive aS where
 | sig
 | expr
 | oExpr
 | equation
 | proofStep
 | claim
 | proof
 | reader
 | l01Reader
 deriving DecidableEq
inductive Ty where
 | int (k:IntKind)
 | bool
 | str
 | slice (t:Ty)
 | st (s:aS)
 | mv (t:Ty)
 | ptr
 deriving DecidableEq
structure aO where
 aq:Int
 bd:Int
structure J where
 ak:Int
 aI:Int
 M:List (J)
structure qH where
 ak:Int
 aI:Int
 M:Option (List (J))
structure aj where
 left:J
 right:J
structure ai where
 use:Int
 back:Bool
 path:List (Int)
 aq:List (J)
 bm:List (J)
structure ae where
 left:J
 right:J
 bO:Int
 ref:Int
 steps:List (ai)
structure av where
 sig:aO
 U:List (ae)
structure oT where
 text:List UInt8
 WM:Int
structure gM where
 text:List UInt8
 WM:Int
 Z2:Int
 bad:Bool
@[reducible] def aS.den:aS->Type
 | .sig=>aO
 | .expr=>J
 | .oExpr=>qH
 | .equation=>aj
 | .proofStep=>ai
 | .claim=>ae
 | .proof=>av
 | .reader=>oT
 | .l01Reader=>gM
@[reducible] def Ty.den:Ty->Type
 | .int _=>Int
 | .bool=>Bool
 | .str=>List UInt8
 | .slice t=>List t.den
 | .st s=>s.den
 | .mv t=>Option (List t.den)
 | .ptr=>Unit
structure TV where
 τ:Ty
 x:τ.den
def TV.Z9(τ:Ty)(v:TV):Option τ.den:=if h:v.τ=τ then some (h ▸ v.x) else none
theorem TV.aY{τ:Ty}{v:TV}{x:τ.den}(h:v.Z9 τ=some x):v=⟨τ,x⟩:=by
 unfold TV.Z9 at h
 split at h
 .rename_i e
  subst e
  cases v
  simp at h
  subst h
  rfl
 .cases h
@[simp] theorem TV.YD(τ:Ty)(x:τ.den):TV.Z9 τ ⟨τ,x⟩=some x:=by simp[TV.Z9]
def aS.fields:(s:aS)->s.den->List TV
 | .sig,x=>[⟨.int .i64,x.aq⟩,⟨.int .i64,x.bd⟩]
 | .expr,x=>[⟨.int .i64,x.ak⟩,⟨.int .i64,x.aI⟩,⟨.slice (.st .expr),x.M⟩]
 | .oExpr,x=>[⟨.int .i64,x.ak⟩,⟨.int .i64,x.aI⟩,⟨.mv (.st .expr),x.M⟩]
 | .equation,x=>[⟨.st .expr,x.left⟩,⟨.st .expr,x.right⟩]
 | .proofStep,x=>[⟨.int .i64,x.use⟩,⟨.bool,x.back⟩,⟨.slice (.int .i64),x.path⟩,⟨.slice (.st .expr),x.aq⟩,⟨.slice (.st .expr),x.bm⟩]
 | .claim,x=>[⟨.st .expr,x.left⟩,⟨.st .expr,x.right⟩,⟨.int .i64,x.bO⟩,⟨.int .i64,x.ref⟩,⟨.slice (.st .proofStep),x.steps⟩]
 | .proof,x=>[⟨.st .sig,x.sig⟩,⟨.slice (.st .claim),x.U⟩]
 | .reader,x=>[⟨.str,x.text⟩,⟨.int .i64,x.WM⟩]
 | .l01Reader,x=>[⟨.str,x.text⟩,⟨.int .i64,x.WM⟩,⟨.int .i64,x.Z2⟩,⟨.bool,x.bad⟩]
def aS.cells:(s:aS)->s.den->List TV
 | .sig,x=>[⟨.int .i64,x.aq⟩,⟨.int .i64,x.bd⟩]
 | .expr,x=>[⟨.int .i64,x.ak⟩,⟨.int .i64,x.aI⟩,⟨.slice (.st .expr),x.M⟩]
 | .oExpr,x=>[⟨.int .i64,x.ak⟩,⟨.int .i64,x.aI⟩,⟨.mv (.st .expr),x.M⟩]
 | .equation,x=>[⟨.int .i64,x.left.ak⟩,⟨.int .i64,x.left.aI⟩,⟨.slice (.st .expr),x.left.M⟩,⟨.int .i64,x.right.ak⟩,⟨.int .i64,x.right.aI⟩,⟨.slice (.st .expr),x.right.M⟩]
 | .proofStep,x=>[⟨.int .i64,x.use⟩,⟨.bool,x.back⟩,⟨.slice (.int .i64),x.path⟩,⟨.slice (.st .expr),x.aq⟩,⟨.slice (.st .expr),x.bm⟩]
 | .claim,x=>[⟨.int .i64,x.left.ak⟩,⟨.int .i64,x.left.aI⟩,⟨.slice (.st .expr),x.left.M⟩,⟨.int .i64,x.right.ak⟩,⟨.int .i64,x.right.aI⟩,⟨.slice (.st .expr),x.right.M⟩,⟨.int .i64,x.bO⟩,⟨.int .i64,x.ref⟩,⟨.slice (.st .proofStep),x.steps⟩]
 | .proof,x=>[⟨.int .i64,x.sig.aq⟩,⟨.int .i64,x.sig.bd⟩,⟨.slice (.st .claim),x.U⟩]
 | .reader,x=>[⟨.str,x.text⟩,⟨.int .i64,x.WM⟩]
 | .l01Reader,x=>[⟨.str,x.text⟩,⟨.int .i64,x.WM⟩,⟨.int .i64,x.Z2⟩,⟨.bool,x.bad⟩]
def aS.size:aS->Nat
 | .sig=>2
 | .expr=>3
 | .oExpr=>3
 | .equation=>6
 | .proofStep=>5
 | .claim=>9
 | .proof=>3
 | .reader=>2
 | .l01Reader=>4
def aS.xH:aS->List Ty
 | .sig=>[.int .i64, .int .i64]
 | .expr=>[.int .i64, .int .i64, .slice (.st .expr)]
 | .oExpr=>[.int .i64, .int .i64, .mv (.st .expr)]
 | .equation=>[.int .i64, .int .i64, .slice (.st .expr), .int .i64, .int .i64, .slice (.st .expr)]
 | .proofStep=>[.int .i64, .bool, .slice (.int .i64), .slice (.st .expr), .slice (.st .expr)]
 | .claim=>[.int .i64, .int .i64, .slice (.st .expr), .int .i64, .int .i64, .slice (.st .expr), .int .i64, .int .i64, .slice (.st .proofStep)]
 | .proof=>[.int .i64, .int .i64, .slice (.st .claim)]
 | .reader=>[.str, .int .i64]
 | .l01Reader=>[.str, .int .i64, .int .i64, .bool]
def aS.ic:aS->List Ty
 | .sig=>[.int .i64, .int .i64]
 | .expr=>[.int .i64, .int .i64, .slice (.st .expr)]
 | .oExpr=>[.int .i64, .int .i64, .mv (.st .expr)]
 | .equation=>[.st .expr, .st .expr]
 | .proofStep=>[.int .i64, .bool, .slice (.int .i64), .slice (.st .expr), .slice (.st .expr)]
 | .claim=>[.st .expr, .st .expr, .int .i64, .int .i64, .slice (.st .proofStep)]
 | .proof=>[.st .sig, .slice (.st .claim)]
 | .reader=>[.str, .int .i64]
 | .l01Reader=>[.str, .int .i64, .int .i64, .bool]
def aS.gX:(s:aS)->List TV->Option s.den
 | .sig,[a0,a1]=>(a0.Z9 (.int .i64)).bind λ b0=>(a1.Z9 (.int .i64)).bind λ b1=>some (aO.mk b0 b1)
 | .expr,[a0,a1,a2]=>(a0.Z9 (.int .i64)).bind λ b0=>(a1.Z9 (.int .i64)).bind λ b1=>(a2.Z9 (.slice (.st .expr))).bind λ b2=>some (J.mk b0 b1 b2)
 | .oExpr,[a0,a1,a2]=>(a0.Z9 (.int .i64)).bind λ b0=>(a1.Z9 (.int .i64)).bind λ b1=>(a2.Z9 (.mv (.st .expr))).bind λ b2=>some (qH.mk b0 b1 b2)
 | .equation,[a0,a1,a2,a3,a4,a5]=>(a0.Z9 (.int .i64)).bind λ b0=>(a1.Z9 (.int .i64)).bind λ b1=>(a2.Z9 (.slice (.st .expr))).bind λ b2=>(a3.Z9 (.int .i64)).bind λ b3=>(a4.Z9 (.int .i64)).bind λ b4=>(a5.Z9 (.slice (.st .expr))).bind λ b5=>some (aj.mk (J.mk b0 b1 b2) (J.mk b3 b4 b5))
 | .proofStep,[a0,a1,a2,a3,a4]=>(a0.Z9 (.int .i64)).bind λ b0=>(a1.Z9 (.bool)).bind λ b1=>(a2.Z9 (.slice (.int .i64))).bind λ b2=>(a3.Z9 (.slice (.st .expr))).bind λ b3=>(a4.Z9 (.slice (.st .expr))).bind λ b4=>some (ai.mk b0 b1 b2 b3 b4)
 | .claim,[a0,a1,a2,a3,a4,a5,a6,a7,a8]=>(a0.Z9 (.int .i64)).bind λ b0=>(a1.Z9 (.int .i64)).bind λ b1=>(a2.Z9 (.slice (.st .expr))).bind λ b2=>(a3.Z9 (.int .i64)).bind λ b3=>(a4.Z9 (.int .i64)).bind λ b4=>(a5.Z9 (.slice (.st .expr))).bind λ b5=>(a6.Z9 (.int .i64)).bind λ b6=>(a7.Z9 (.int .i64)).bind λ b7=>(a8.Z9 (.slice (.st .proofStep))).bind λ b8=>some (ae.mk (J.mk b0 b1 b2) (J.mk b3 b4 b5) b6 b7 b8)
 | .proof,[a0,a1,a2]=>(a0.Z9 (.int .i64)).bind λ b0=>(a1.Z9 (.int .i64)).bind λ b1=>(a2.Z9 (.slice (.st .claim))).bind λ b2=>some (av.mk (aO.mk b0 b1) b2)
 | .reader,[a0,a1]=>(a0.Z9 (.str)).bind λ b0=>(a1.Z9 (.int .i64)).bind λ b1=>some (oT.mk b0 b1)
 | .l01Reader,[a0,a1,a2,a3]=>(a0.Z9 (.str)).bind λ b0=>(a1.Z9 (.int .i64)).bind λ b1=>(a2.Z9 (.int .i64)).bind λ b2=>(a3.Z9 (.bool)).bind λ b3=>some (gM.mk b0 b1 b2 b3)
 | _,_=>none
theorem aS.qC:∀ {s:aS} {l:List TV} {x:s.den},s.gX l=some x->s.cells x=l:=by
 intro s l x h
 cases s
 case sig =>
  match l,h with
  | [a0,a1],h =>
   simp only[aS.gX,a9G,a8o] at h
   obtain⟨b0,h0,⟨b1,h1,rfl⟩⟩:=h
   have e0:=TV.aY h0;have e1:=TV.aY h1
   subst e0 e1
   rfl
 case expr =>
  match l,h with
  | [a0,a1,a2],h =>
   simp only[aS.gX,a9G,a8o] at h
   obtain⟨b0,h0,⟨b1,h1,⟨b2,h2,rfl⟩⟩⟩:=h
   have e0:=TV.aY h0;have e1:=TV.aY h1;have e2:=TV.aY h2
   subst e0 e1 e2
   rfl
 case oExpr =>
  match l,h with
  | [a0,a1,a2],h =>
   simp only[aS.gX,a9G,a8o] at h
   obtain⟨b0,h0,⟨b1,h1,⟨b2,h2,rfl⟩⟩⟩:=h
   have e0:=TV.aY h0;have e1:=TV.aY h1;have e2:=TV.aY h2
   subst e0 e1 e2
   rfl
 case equation =>
  match l,h with
  | [a0,a1,a2,a3,a4,a5],h =>
   simp only[aS.gX,a9G,a8o] at h
   obtain⟨b0,h0,⟨b1,h1,⟨b2,h2,⟨b3,h3,⟨b4,h4,⟨b5,h5,rfl⟩⟩⟩⟩⟩⟩:=h
   have e0:=TV.aY h0;have e1:=TV.aY h1;have e2:=TV.aY h2;have e3:=TV.aY h3;have e4:=TV.aY h4;have e5:=TV.aY h5
   subst e0 e1 e2 e3 e4 e5
   rfl
 case proofStep =>
  match l,h with
  | [a0,a1,a2,a3,a4],h =>
   simp only[aS.gX,a9G,a8o] at h
   obtain⟨b0,h0,⟨b1,h1,⟨b2,h2,⟨b3,h3,⟨b4,h4,rfl⟩⟩⟩⟩⟩:=h
   have e0:=TV.aY h0;have e1:=TV.aY h1;have e2:=TV.aY h2;have e3:=TV.aY h3;have e4:=TV.aY h4
   subst e0 e1 e2 e3 e4
   rfl
 case claim =>
  match l,h with
  | [a0,a1,a2,a3,a4,a5,a6,a7,a8],h =>
   simp only[aS.gX,a9G,a8o] at h
   obtain⟨b0,h0,⟨b1,h1,⟨b2,h2,⟨b3,h3,⟨b4,h4,⟨b5,h5,⟨b6,h6,⟨b7,h7,⟨b8,h8,rfl⟩⟩⟩⟩⟩⟩⟩⟩⟩:=h
   have e0:=TV.aY h0;have e1:=TV.aY h1;have e2:=TV.aY h2;have e3:=TV.aY h3;have e4:=TV.aY h4;have e5:=TV.aY h5;have e6:=TV.aY h6;have e7:=TV.aY h7;have e8:=TV.aY h8
   subst e0 e1 e2 e3 e4 e5 e6 e7 e8
   rfl
 case proof =>
  match l,h with
  | [a0,a1,a2],h =>
   simp only[aS.gX,a9G,a8o] at h
   obtain⟨b0,h0,⟨b1,h1,⟨b2,h2,rfl⟩⟩⟩:=h
   have e0:=TV.aY h0;have e1:=TV.aY h1;have e2:=TV.aY h2
   subst e0 e1 e2
   rfl
 case reader =>
  match l,h with
  | [a0,a1],h =>
   simp only[aS.gX,a9G,a8o] at h
   obtain⟨b0,h0,⟨b1,h1,rfl⟩⟩:=h
   have e0:=TV.aY h0;have e1:=TV.aY h1
   subst e0 e1
   rfl
 case l01Reader =>
  match l,h with
  | [a0,a1,a2,a3],h =>
   simp only[aS.gX,a9G,a8o] at h
   obtain⟨b0,h0,⟨b1,h1,⟨b2,h2,⟨b3,h3,rfl⟩⟩⟩⟩:=h
   have e0:=TV.aY h0;have e1:=TV.aY h1;have e2:=TV.aY h2;have e3:=TV.aY h3
   subst e0 e1 e2 e3
   rfl
theorem aS.kY(s:aS)(x:s.den):(s.cells x).length=s.size:=by cases s<;>rfl
theorem aS.xF(s:aS)(x:s.den):(s.cells x).map TV.τ=s.xH:=by cases s<;>rfl
theorem aS.zN(s:aS)(x:s.den):(s.fields x).map TV.τ=s.ic:=by cases s<;>rfl
def Ty.size:Ty->Nat
 | .st s=>s.size
 | _=>1
def TV.cells(v:TV):List TV :=
 match v with
 | ⟨.st s,x⟩=>s.cells x
 | v=>[v]
theorem aS.I1(s:aS)(x:s.den):s.cells x=(s.fields x).flatMap TV.cells:=by cases s<;>rfl
def aO.aR(x:aO):D := .agg [.int .i64 x.aq, .int .i64 x.bd]
mutual
def J.aR:J->D
 | ⟨ak,aI,M⟩ => .agg [.int .i64 ak, .int .i64 aI, .slice 3 (J.a3o M)]
def J.a3o:List J->List D
 | []=>[]
 | e::r=>e.aR::J.a3o r
end
theorem J.vE:∀ l,J.a3o l=l.map J.aR
 | []=>rfl
 | _::r=>congrArg _ (J.vE r)
def qH.aR(x:qH):D := .agg [.int .i64 x.ak, .int .i64 x.aI,mvD 3 (λ y=>J.aR y) x.M]
def aj.aR(x:aj):D := .agg [.int .i64 x.left.ak, .int .i64 x.left.aI, .slice 3 (x.left.M.map λ y=>J.aR y), .int .i64 x.right.ak, .int .i64 x.right.aI, .slice 3 (x.right.M.map λ y=>J.aR y)]
def ai.aR(x:ai):D := .agg [.int .i64 x.use, .bool x.back, .slice 1 (x.path.map λ y => .int .i64 y), .slice 3 (x.aq.map λ y=>J.aR y), .slice 3 (x.bm.map λ y=>J.aR y)]
def ae.aR(x:ae):D := .agg [.int .i64 x.left.ak, .int .i64 x.left.aI, .slice 3 (x.left.M.map λ y=>J.aR y), .int .i64 x.right.ak, .int .i64 x.right.aI, .slice 3 (x.right.M.map λ y=>J.aR y), .int .i64 x.bO, .int .i64 x.ref, .slice 5 (x.steps.map λ y=>ai.aR y)]
def av.aR(x:av):D := .agg [.int .i64 x.sig.aq, .int .i64 x.sig.bd, .slice 9 (x.U.map λ y=>ae.aR y)]
def oT.aR(x:oT):D := .agg [.str x.text, .int .i64 x.WM]
def gM.aR(x:gM):D := .agg [.str x.text, .int .i64 x.WM, .int .i64 x.Z2, .bool x.bad]
def aS.aR:(s:aS)->s.den->D
 | .sig,x=>aO.aR x
 | .expr,x=>J.aR x
 | .oExpr,x=>qH.aR x
 | .equation,x=>aj.aR x
 | .proofStep,x=>ai.aR x
 | .claim,x=>ae.aR x
 | .proof,x=>av.aR x
 | .reader,x=>oT.aR x
 | .l01Reader,x=>gM.aR x
def Ty.aR:(t:Ty)->t.den->D
 | .int k,n => .int k n
 | .bool,b => .bool b
 | .str,s => .str s
 | .slice t,xs => .slice t.size (xs.map t.aR)
 | .st s,x=>s.aR x
 | .mv t,o=>mvD t.size t.aR o
 | .ptr,_ => .ptr
def TV.aR(v:TV):D:=v.τ.aR v.x
theorem aS.cF(s:aS)(x:s.den):s.aR x = .agg ((s.cells x).map TV.aR):=by
 cases s<;>first
  | rfl
  | (cases x;simp[aS.aR,J.aR,aS.cells,TV.aR,Ty.aR,Ty.size,aS.size,J.vE];done)
  | (simp[aS.aR,aS.cells,TV.aR,Ty.aR,Ty.size,aS.size,aO.aR,J.aR,qH.aR,aj.aR,ai.aR,ae.aR,av.aR,oT.aR,gM.aR,J.vE];done)
def aS.zero:(s:aS)->s.den
 | .sig=>(aO.mk 0 0)
 | .expr=>(J.mk 0 0 [])
 | .oExpr=>(qH.mk 0 0 none)
 | .equation=>(aj.mk (J.mk 0 0 []) (J.mk 0 0 []))
 | .proofStep=>(ai.mk 0 false [] [] [])
 | .claim=>(ae.mk (J.mk 0 0 []) (J.mk 0 0 []) 0 0 [])
 | .proof=>(av.mk (aO.mk 0 0) [])
 | .reader=>(oT.mk [] 0)
 | .l01Reader=>(gM.mk [] 0 0 false)
def Ty.zero:(t:Ty)->t.den
 | .int _=>(0:Int)
 | .bool=>false
 | .str=>([]:List UInt8)
 | .slice _=>[]
 | .st s=>s.zero
 | .mv _=>none
 | .ptr=>()
instance:Inhabited aO:=⟨aS.zero .sig⟩
theorem aO.eta(x:aO):aO.mk x.aq x.bd=x:=by cases x;rfl
instance:Inhabited J:=⟨aS.zero .expr⟩
theorem J.eta(x:J):J.mk x.ak x.aI x.M=x:=by cases x;rfl
instance:Inhabited qH:=⟨aS.zero .oExpr⟩
theorem qH.eta(x:qH):qH.mk x.ak x.aI x.M=x:=by cases x;rfl
instance:Inhabited aj:=⟨aS.zero .equation⟩
theorem aj.eta(x:aj):aj.mk x.left x.right=x:=by cases x;rfl
instance:Inhabited ai:=⟨aS.zero .proofStep⟩
theorem ai.eta(x:ai):ai.mk x.use x.back x.path x.aq x.bm=x:=by cases x;rfl
instance:Inhabited ae:=⟨aS.zero .claim⟩
theorem ae.eta(x:ae):ae.mk x.left x.right x.bO x.ref x.steps=x:=by cases x;rfl
instance:Inhabited av:=⟨aS.zero .proof⟩
theorem av.eta(x:av):av.mk x.sig x.U=x:=by cases x;rfl
instance:Inhabited oT:=⟨aS.zero .reader⟩
theorem oT.eta(x:oT):oT.mk x.text x.WM=x:=by cases x;rfl
instance:Inhabited gM:=⟨aS.zero .l01Reader⟩
theorem gM.eta(x:gM):gM.mk x.text x.WM x.Z2 x.bad=x:=by cases x;rfl
def ag(x:J):J:=J.mk x.ak x.aI x.M
theorem aP(x:J):ag x=x:=by cases x;simp[ag]
def bU(x:aj):aj:=aj.mk (ag x.left) (ag x.right)
theorem bM(x:aj):bU x=x:=by cases x;simp[bU,aP]
def FZ(x:ae):ae:=ae.mk (ag x.left) (ag x.right) x.bO x.ref x.steps
theorem cn(x:ae):FZ x=x:=by cases x;simp[FZ,aP]
theorem aS.YT:∀ (s:aS) (fl:List TV),fl.map TV.τ=s.ic->∃ x,s.fields x=fl
 | .sig,fl,h=>by
  match fl,h with
  | [⟨t0,a0⟩,⟨t1,a1⟩],h =>
   simp only[a9k,b0j,aS.ic,a8z,a8F] at h
   obtain⟨rfl,rfl⟩:=h
   exact⟨⟨a0,a1⟩,rfl⟩
 | .expr,fl,h=>by
  match fl,h with
  | [⟨t0,a0⟩,⟨t1,a1⟩,⟨t2,a2⟩],h =>
   simp only[a9k,b0j,aS.ic,a8z,a8F] at h
   obtain⟨rfl,rfl,rfl⟩:=h
   exact⟨⟨a0,a1,a2⟩,rfl⟩
 | .oExpr,fl,h=>by
  match fl,h with
  | [⟨t0,a0⟩,⟨t1,a1⟩,⟨t2,a2⟩],h =>
   simp only[a9k,b0j,aS.ic,a8z,a8F] at h
   obtain⟨rfl,rfl,rfl⟩:=h
   exact⟨⟨a0,a1,a2⟩,rfl⟩
 | .equation,fl,h=>by
  match fl,h with
  | [⟨t0,a0⟩,⟨t1,a1⟩],h =>
   simp only[a9k,b0j,aS.ic,a8z,a8F] at h
   obtain⟨rfl,rfl⟩:=h
   exact⟨⟨a0,a1⟩,rfl⟩
 | .proofStep,fl,h=>by
  match fl,h with
  | [⟨t0,a0⟩,⟨t1,a1⟩,⟨t2,a2⟩,⟨t3,a3⟩,⟨t4,a4⟩],h =>
   simp only[a9k,b0j,aS.ic,a8z,a8F] at h
   obtain⟨rfl,rfl,rfl,rfl,rfl⟩:=h
   exact⟨⟨a0,a1,a2,a3,a4⟩,rfl⟩
 | .claim,fl,h=>by
  match fl,h with
  | [⟨t0,a0⟩,⟨t1,a1⟩,⟨t2,a2⟩,⟨t3,a3⟩,⟨t4,a4⟩],h =>
   simp only[a9k,b0j,aS.ic,a8z,a8F] at h
   obtain⟨rfl,rfl,rfl,rfl,rfl⟩:=h
   exact⟨⟨a0,a1,a2,a3,a4⟩,rfl⟩
 | .proof,fl,h=>by
  match fl,h with
  | [⟨t0,a0⟩,⟨t1,a1⟩],h =>
   simp only[a9k,b0j,aS.ic,a8z,a8F] at h
   obtain⟨rfl,rfl⟩:=h
   exact⟨⟨a0,a1⟩,rfl⟩
 | .reader,fl,h=>by
  match fl,h with
  | [⟨t0,a0⟩,⟨t1,a1⟩],h =>
   simp only[a9k,b0j,aS.ic,a8z,a8F] at h
   obtain⟨rfl,rfl⟩:=h
   exact⟨⟨a0,a1⟩,rfl⟩
 | .l01Reader,fl,h=>by
  match fl,h with
  | [⟨t0,a0⟩,⟨t1,a1⟩,⟨t2,a2⟩,⟨t3,a3⟩],h =>
   simp only[a9k,b0j,aS.ic,a8z,a8F] at h
   obtain⟨rfl,rfl,rfl,rfl⟩:=h
   exact⟨⟨a0,a1,a2,a3⟩,rfl⟩
abbrev zE:J:=J.mk (0:Int) (0:Int) []
end Go.Proofs.YtmjfpcajohhbeaaGreatDoor

namespace Go.Proofs.YtmjfpcajohhbeaaGreatDoor
noncomputable section
@[reducible] def FN:List Ty->Ty->Type
 | [],r=>Prop×r.den
 | t::ts,r=>t.den->FN ts r
structure FV where
 ps:List Ty
 r:Ty
 F:FN ps r
def FV.Z9(ps:List Ty)(r:Ty)(v:FV):Option (FN ps r):=if h:v.ps=ps then (if k:v.r=r then some (h ▸ k ▸ v.F) else none) else none
theorem FV.aY{ps:List Ty}{r:Ty}{v:FV}{F:FN ps r}(h:v.Z9 ps r=some F):v=⟨ps,r,F⟩:=by
 unfold FV.Z9 at h
 split at h
 .split at h
  .rename_i e k
   obtain⟨ps',r',F'⟩:=v
   simp only at e k
   subst e k
   simp at h
   subst h
   rfl
  .cases h
 .cases h
@[simp] theorem FV.YD(ps:List Ty)(r:Ty)(F:FN ps r):FV.Z9 ps r ⟨ps,r,F⟩=some F:=by simp[FV.Z9]
structure MV where
 κ:Ty
 ε:Ty
 f:κ.den->Option ε.den
 n:Nat
def MV.Z9(κ ε:Ty)(m:MV):Option ((κ.den->Option ε.den)×Nat):=if h:m.κ=κ then (if k:m.ε=ε then some (h ▸ k ▸ (m.f,m.n)) else none) else none
theorem MV.aY{κ ε:Ty}{m:MV}{F:(κ.den->Option ε.den)×Nat}(h:m.Z9 κ ε=some F):m=⟨κ,ε,F.1,F.2⟩:=by
 unfold MV.Z9 at h
 split at h
 .split at h
  .rename_i e k
   obtain⟨κ',ε',f',n'⟩:=m
   simp only at e k
   subst e k
   simp at h
   subst h
   rfl
  .cases h
 .cases h
@[simp] theorem MV.YD(κ ε:Ty)(f:κ.den->Option ε.den)(n:Nat):MV.Z9 κ ε ⟨κ,ε,f,n⟩=some (f,n):=by simp[MV.Z9]
def Jr{α β:Type}(f:α->Option β)(k:α)(v:β):α->Option β:=λ x => @ite _ (x=k) (Classical.propDecidable _) (some v) (f x)
def Qh{β:Type}(o:Option β)(n:Nat):Nat:=bif o.isSome then n else n+1
inductive AV where
 | any
 | eG
 | aW (v:TV)
 | nil
 | dn (v:TV)
 | ptr (id off:Nat)
 | row (id:Nat)
 | eY (id i off:Nat)
 | agg (cs:List AV)
 | kW (vs:List AV)
 | fn (f:FuncId)
 | aE (id:Nat)
 | sub (id i off sz:Nat)
 | fF (id i off sz:Nat)
 | dq (f:FuncId) (cs:List AV)
 | kI (v:FV)
 | mp (id:Nat)
inductive aB where
 | box (cs:List AV)
 | row (e:TypeId) (τ:Ty) (xs:List τ.den)
 | aE (τ:Ty) (xs:List τ.den)
 | map (m:MV)
structure ah where
 aC:List AV
 aK:List (Nat×aB)
inductive Arg where
 | val (v:TV)
 | ref (v:TV)
 | fn (f:FuncId)
 | dq (v:FV)
 | own (v:TV)
 | box (k:Nat)
inductive CK where
 | d (τ:Ty)
 | o (τ:Ty)
 | p (k:Nat)
structure SK where
 ps:List (Option Nat)
 sh:List (List CK)
def af{α:Type}:List (Nat×α)->Nat->Option α
 | [],_=>none
 | (k,v)::r,n=>match Nat.beq k n with
  | true=>some v
  | false=>af r n
abbrev Vc:=Option Prop
def Vc.ok:Vc->Prop
 | .none=>True
 | .some p=>p
def Vc.and(v:Vc)(K:Prop):Prop:=match v with
 | .none=>K
 | .some p=>p/\K
theorem Vc.nf{v:Vc}{K:Prop}(h:v.and K):v.ok/\K:=by
 cases v with
 | none=>exact⟨trivial,h⟩
 | some p=>exact h
structure UF where
 τ:Ty
 g:τ.den->Int->Vc×τ.den×Int
structure FA where
 ps:List Ty
 r:Ty
 iD:List (Bool×Ty)
def Arg.La:Arg->Bool
 | .ref _ | .dq _ | .box _=>false
 | _=>true
inductive W3 where
 | box (cells:List TV)
 | row (e:TypeId) (τ:Ty) (xs:List τ.den)
 | res (l:List (Bool×TV))
structure Env where
 ty:List (Nat×Ty×Nat×Nat)
 ZF:List (Nat×Ty)
 N8:Nat->List Arg->Option (Vc×List TV)
 wr:List Nat:=[]
 own:List Nat:=[]
 MN:Nat->List Arg->Option (Vc×List TV):=λ _ _=>none
 mark:Nat->Option UF:=λ _=>none
 dq:Nat->Option FA:=λ _=>none
 ro:List Nat:=[]
 tk:Nat->List Bool:=λ _=>[]
 sk:Nat->Option SK:=λ _=>none
 Vz:Nat->List Arg->List (List TV)->Option (Vc×List TV×List (List TV)):=λ _ _ _=>none
 XZ:List (Nat×Ty×Ty):=[]
 Tb:Nat->List Arg->Option (Vc×W3):=λ _ _=>none
def ah.af(s:ah)(id:Nat):Option aB:=YtmjfpcajohhbeaaGreatDoor.af s.aK id
def Sc(k:IntKind)(n:Int):Bool :=
 match n with
 | .ofNat m=>match k with
  | .i64=>Nat.ble m 9223372036854775807
  | .u64=>Nat.ble m 18446744073709551615
  | .u8=>Nat.ble m 255
  | _=>Nat.ble m 127
 | .negSucc m=>match k with
  | .i64=>Nat.ble m 9223372036854775807
  | _=>false
def LW:Value->AV
 | .int k n=>match Sc k n with
  | true => .aW ⟨.int k,n⟩
  | false => .any
 | .bool b => .aW ⟨.bool,b⟩
 | .string s=>match Nat.ble s.data.size 1000000 with
  | true => .aW ⟨.str,s.data.toList⟩
  | false => .any
 | .slice none 0 0 => .nil
 | _ => .any
def Xh:Value->AV
 | .agg cs => .agg (cs.toList.map LW)
 | .tuple cs=>match Nat.beq cs.size 0 with
  | true => .eG
  | false => .any
 | v=>LW v
def ah.eval(s:ah):Operand->AV
 | .tmp t=>s.aC.getD t .any
 | .const v=>Xh v
 | .func f => .fn f
 | .global _ => .any
def mS(lk:Nat->Option aB)(τ:Ty):AV->Option τ.den
 | .aW v=>v.Z9 τ
 | .nil=>match τ with
  | .slice _=>some []
  | _=>none
 | .row id=>match lk id with
  | some (.row _ bo xs)=>TV.Z9 τ ⟨.slice bo,xs⟩
  | _=>none
 | .aE id=>match lk id with
  | some (.aE bo xs)=>TV.Z9 τ ⟨.slice bo,xs⟩
  | _=>none
 | _=>none
def MM(lk:Nat->Option aB)(id:Nat):Option aB:=match lk id with
 | some (.aE _ _)=>none
 | o=>o
def RR(lk:Nat->Option aB):List AV->List Ty->Option (List TV)
 | [],[]=>some []
 | c::cs,t::ts=>match mS lk t c with
  | some x=>match RR lk cs ts with
   | some r=>some (⟨t,x⟩::r)
   | none=>none
  | none=>none
 | _,_=>none
def EV(lk:Nat->Option aB)(τ:Ty):AV->Option τ.den
 | .agg cs=>match τ with
  | .st s=>match RR lk cs s.xH with
   | some l=>s.gX l
   | none=>none
  | _=>none
 | v=>mS lk τ v
def AV.cell:AV->Bool
 | .any | .eG | .agg _ | .kW _ | .sub .. | .fF .. | .dq .. | .kI .. => false
 | .aW v=>match v.τ with
  | .st _=>false
  | _=>true
 | _=>true
def cellsOf(τ:Ty)(v:AV):Option (List AV) :=
 match τ with
 | .st s=>match v with
  | .aW x=>match x.Z9 (.st s) with
   | some y=>some ((s.cells y).map .aW)
   | none=>none
  | .agg cs=>match Nat.beq cs.length s.size&&cs.all AV.cell with
   | true=>some cs
   | false=>none
  | _=>none
 | _=>match v.cell with
  | true=>some [v]
  | false=>none
def Hx(cs:List AV)(off:Nat)(τ:Ty):Option AV :=
 match τ with
 | .st s=>match Nat.ble (off+s.size) cs.length with
  | true=>some (.agg ((cs.drop off).take s.size))
  | false=>none
 | _=>cs[off]?
def putCells(cs:List AV)(off:Nat)(new:List AV):Option (List AV) :=
 match Nat.ble (off+new.length) cs.length with
 | true=>some (cs.take off++(new++cs.drop (off+new.length)))
 | false=>none
def TV.part(v:TV)(off:Nat)(τ:Ty):Option TV :=
 match Nat.beq off 0&&decide (v.τ=τ) with
 | true=>some v
 | false=>match v.cells[off]? with
  | some u=>match decide (u.τ=τ) with
   | true=>some u
   | false=>none
  | none=>none
def uJ(lk:Nat->Option aB)(τ:Ty):AV->Option AV
 | .dn v=>match decide (v.τ=τ) with
  | true=>some (.aW v)
  | false=>none
 | .ptr id off=>match lk id with
  | some (.box cs)=>Hx cs off τ
  | _=>none
 | .eY id i off=>match lk id with
  | some (.row _ bo xs)=>match TV.part ⟨bo,xs.getD i bo.zero⟩ off τ with
   | some u=>some (.aW u)
   | none=>none
  | _=>none
 | _=>none
def deref(lk:Nat->Option aB)(τ:Ty)(v:AV):Option τ.den :=
 match uJ lk τ v with
 | some u=>EV lk τ u
 | none=>none
def aS.gq(s:aS)(i:Nat):Nat:=((s.ic.take i).map Ty.size).sum
def zeroCell(τ:Ty):AV :=
 match τ with
 | .slice _ => .nil
 | τ => .aW ⟨τ,τ.zero⟩
def zeroCells(τ:Ty):List AV :=
 match τ with
 | .st s=>s.xH.map zeroCell
 | τ=>[zeroCell τ]
def Db(lk:Nat->Option aB):List (Bool×Ty)->List AV->Option (List Arg)
 | [],[]=>some []
 | (true,τ)::ks,v::vs=>match deref lk τ v with
  | some x=>match Db lk ks vs with
   | some r=>some (.ref ⟨τ,x⟩::r)
   | none=>none
  | none=>none
 | (false,τ)::ks,v::vs=>match EV lk τ v with
  | some x=>match Db lk ks vs with
   | some r=>some (.val ⟨τ,x⟩::r)
   | none=>none
  | none=>none
 | _,_=>none
def R7(E:Env)(f:FuncId)(iD:List Arg):(ps:List Ty)->(r:Ty)->List Arg->FN ps r
 | [],r,acc=>match E.N8 f (acc++iD) with
  | some (pre,[v])=>match v.Z9 r with
   | some y=>(pre.ok,y)
   | none=>(False,r.zero)
  | _=>(False,r.zero)
 | t::ts,r,acc=>λ x=>R7 E f iD ts r (acc++[.val ⟨t,x⟩])
def vI:(ps:List Ty)->(r:Ty)->FN ps r->List Arg->Option (Prop×r.den)
 | [],_,F,[]=>some F
 | t::ts,r,F, .val a::zs=>match a.Z9 t with
  | some x=>vI ts r (F x) zs
  | none=>none
 | _,_,_,_=>none
def LY(E:Env)(lk:Nat->Option aB):AV->Option FV
 | .dq f cs=>match E.dq f with
  | some k=>match Db lk k.iD cs with
   | some Z9=>some ⟨k.ps,k.r,R7 E f Z9 k.ps k.r []⟩
   | none=>none
  | none=>none
 | .kI v=>some v
 | .fn f=>match E.dq f with
  | some k=>match k.iD with
   | []=>some ⟨k.ps,k.r,R7 E f [] k.ps k.r []⟩
   | _=>none
  | none=>none
 | _=>none
def RP(E:Env)(lk:Nat->Option aB)(T:TypeId)(v:AV):Option Arg :=
 match af E.ty T with
 | some (τ,_)=>match EV lk τ v with
  | some x=>some (.val ⟨τ,x⟩)
  | none=>none
 | none=>match af E.ZF T with
  | some τ=>match deref lk τ v with
   | some x=>some (.ref ⟨τ,x⟩)
   | none=>none
  | none=>match LY E lk v with
   | some q=>some (.dq q)
   | none=>match v with
    | .fn f=>some (.fn f)
    | _=>none
def px(E:Env)(lk:Nat->Option aB):List TypeId->List AV->Option (List Arg)
 | [],[]=>some []
 | T::Ts,v::vs=>match RP E lk T v with
  | some x=>match px E lk Ts vs with
   | some r=>some (x::r)
   | none=>none
  | none=>none
 | _,_=>none
def DM:List TV->AV
 | [v] => .aW v
 | vs => .kW (vs.map .aW)
def O(n:Int):Prop := -9223372036854775808<=n/\n<=9223372036854775807
def cr(k:IntKind)(n:Int):Prop :=
 match k with
 | .i64=>O n
 | k=>k.min<=n/\n<=k.max
def aw(n:Int)(len:Nat):Prop:=0<=n/\n<(len:Int)
def cW(l h:Int)(len:Nat):Prop:=0<=l/\l<=h/\h<=(len:Int)
def cH(n m:Int)(b:Nat):Prop:=0<=n/\n<=m/\m * ((b:Int)+1)<=140737488355328
def br(n b:Nat):Prop:=n * (b+1)<=140737488355328
def arith(op:BinOp)(k:IntKind)(a b:Int):Option (Vc×Int) :=
 match op with
 | .add=>match k with
  | .u64=>some (.none,IntKind.u64.wrap (a+b))
  | k=>some (.some (cr k (a+b)),a+b)
 | .sub=>some (.some (cr k (a - b)),a - b)
 | .mul=>match k with
  | .u64=>some (.none,IntKind.u64.wrap (a * b))
  | k=>some (.some (cr k (a * b)),a * b)
 | .quo=>some (.some (b≠0/\cr k (a.tdiv b)),a.tdiv b)
 | .rem=>some (.some (b≠0/\cr k (a.tmod b)),a.tmod b)
 | .shl=>some (.some (0<=b/\b<k.bits/\cr k (a * 2 ^ b.toNat)),a * 2 ^ b.toNat)
 | .shr=>some (.some (0<=b/\b<k.bits/\cr k (a.fdiv (2 ^ b.toNat))),a.fdiv (2 ^ b.toNat))
 | .and=>some (.some (0<=a/\0<=b/\cr k a/\cr k b),((a.toNat &&& b.toNat:Nat):Int))
 | _=>none
def cmp(op:BinOp)(a b:Int):Option Bool :=
 match op with
 | .eql=>some (decide (a=b))
 | .neq=>some (!decide (a=b))
 | .lss=>some (decide (a<b))
 | .leq=>some (decide (a<=b))
 | .gtr=>some (decide (b<a))
 | .geq=>some (decide (b<=a))
 | _=>none
def VT(wr:Bool)(op:BinOp)(k:IntKind)(a b:Int):Option (Vc×Int) :=
 match wr with
 | true=>match op with
  | .add=>some (.none,k.wrap (a+b))
  | .sub=>some (.none,k.wrap (a - b))
  | .mul=>some (.none,k.wrap (a * b))
  | op=>arith op k a b
 | false=>arith op k a b
def YL(tb wr:Bool)(op:BinOp)(u v:AV):Option (Vc×AV) :=
 match u,v with
 | .aW ⟨.int k,a⟩, .aW ⟨.int k',b⟩=>match VT wr op k a b with
  | some (p,r)=>match op with
   | .shl | .shr=>some (p, .aW ⟨.int k,r⟩)
   | _=>match decide (k=k') with
    | true=>some (p, .aW ⟨.int k,r⟩)
    | false=>none
  | none=>match decide (k=k') with
   | true=>match cmp op a b with
    | some c=>some (.none, .aW ⟨.bool,c⟩)
    | none=>none
   | false=>none
 | .aW ⟨.bool,a⟩, .aW ⟨.bool,b⟩=>match tb with
  | true=>match op with
   | .eql=>some (.none, .aW ⟨.bool,a == b⟩)
   | .neq=>some (.none, .aW ⟨.bool,!(a == b)⟩)
   | _=>none
  | false=>none
 | .aW ⟨.str,a⟩, .aW ⟨.str,b⟩=>match op with
  | .eql=>some (.none, .aW ⟨.bool,decide (a=b)⟩)
  | .neq=>some (.none, .aW ⟨.bool,!decide (a=b)⟩)
  | .add=>some (.some (a.length+b.length<=140737488355328), .aW ⟨.str,a++b⟩)
  | _=>none
 | _,_=>none
def partsOf(E:Env)(s:aS)(cs:List AV):List (Nat×AV)->Option (List AV)
 | []=>some cs
 | (i,v)::r=>match s.ic[i]? with
  | some τ=>match cellsOf τ v with
   | some new=>match putCells cs (s.gq i) new with
    | some dN=>partsOf E s dN r
    | none=>none
   | none=>none
  | none=>none
def u5(τ:Ty):Nat->List (Nat×AV)->Option (List τ.den)
 | _,[]=>some []
 | n,(
    i,v)::r=>match Nat.beq i n with
  | true=>match EV (λ _=>none) τ v with
   | some x=>match u5 τ (n+1) r with
    | some xs=>some (x::xs)
    | none=>none
   | none=>none
  | false=>none
def TV.flat(v:TV):Bool:=v.cells.all λ u=>match u.τ with
 | .slice _=>false
 | .mv _=>false
 | _=>true
def sB(d:Int):Option AV->Option Int
 | none=>some d
 | some (.aW ⟨.int _,n⟩)=>some n
 | _=>none
def uN(lk:Nat->Option aB)(id:Nat):Option aB:=match lk id with
 | some (.box cs)=>some (.box cs)
 | _=>none
def Hs(E:Env)(lk:Nat->Option aB)(f:FuncId)(Ts:List TypeId)(vs:List AV):Option (Vc×AV×Option aB) :=
 match px E (uN lk) Ts vs with
 | some Z9=>match E.N8 f Z9 with
  | some (pre,res)=>some (pre,DM res,none)
  | none=>none
 | none=>match px E lk Ts vs with
  | some Z9=>match E.N8 f Z9 with
   | some (pre,res)=>match res.all TV.flat with
    | true=>some (pre,DM res,none)
    | false=>none
   | none=>none
  | none=>none
def B0(E:Env)(lk:Nat->Option aB)(g:AV)(Ts:List TypeId)(vs:List AV):Option (Vc×AV×Option aB) :=
 match (match px E (uN lk) Ts vs with
  | some Z9=>match LY E (uN lk) g with
   | some q=>match vI q.ps q.r q.F Z9 with
    | some (pre,y)=>some (some pre,DM [⟨q.r,y⟩],none)
    | none=>none
   | none=>none
  | none=>none) with
 | some r=>some r
 | none=>match px E lk Ts vs with
  | some Z9=>match LY E lk g with
   | some q=>match vI q.ps q.r q.F Z9 with
    | some (pre,y)=>match TV.flat ⟨q.r,y⟩ with
     | true=>some (some pre,DM [⟨q.r,y⟩],none)
     | false=>none
    | none=>none
   | none=>none
  | none=>none
def AV.a2b:AV->Bool
 | .eG | .kW _ | .dq .. | .kI .. | .sub .. | .fF .. => false
 | _=>true
def WG(E:Env)(op:BinOp)(T:TypeId)(u v:AV):Option (Vc×AV) :=
 match af E.ty T,u,v with
 | some (.slice _,_), .aW ⟨.slice _,xs⟩, .nil=>match op with
  | .eql=>some (.some (1<=xs.length), .aW ⟨.bool,false⟩)
  | .neq=>some (.some (1<=xs.length), .aW ⟨.bool,true⟩)
  | _=>none
 | _,_,_=>none
def K3(E:Env)(lk:Nat->Option aB)(ev:Operand->AV)(o:Oper):Option (Vc×AV×Option aB) :=
 match o.op with
 | .move x=>some (.none,ev x,none)
 | .assign x=>some (.none,ev x,none)
 | .pick c a b=>match ev c with
  | .aW ⟨.bool,true⟩=>some (.none,ev a,none)
  | .aW ⟨.bool,false⟩=>some (.none,ev b,none)
  | _=>none
 | .alloc T=>match o.dst,af E.ty T with
  | some d,some (τ,_)=>some (.none, .ptr d 0,some (.box (zeroCells τ)))
  | _,_=>none
 | .box T x=>match o.dst,af E.ty T with
  | some d,some (τ,_)=>match E.ro.contains d with
   | true=>match EV (λ _=>none) τ (ev x) with
    | some y=>some (.none, .dn ⟨τ,y⟩,none)
    | none=>none
   | false=>match cellsOf τ (ev x) with
    | some cs=>some (.none, .ptr d 0,some (.box cs))
    | none=>none
  | _,_=>none
 | .build T parts=>match af E.ty T with
  | some (.st n,_)=>match partsOf E n (zeroCells (.st n)) (parts.toList.map λ p=>(p.1,ev p.2)) with
   | some cs=>some (.none, .agg cs,none)
   | none=>none
  | _=>none
 | .buildSlice T len parts=>match o.dst,af E.ty T with
  | some d,some (.slice τ,_,e)=>match Nat.beq parts.size len&&Nat.ble len 1000 with
   | true=>match u5 τ 0 (parts.toList.map λ p=>(p.1,ev p.2)) with
    | some xs=>match E.ro.contains d with
     | true=>some (.none, .aW ⟨.slice τ,xs⟩,none)
     | false=>some (.none, .row d,some (.row e τ xs))
    | none=>none
   | false=>none
  | _,_=>none
 | .load T a=>match af E.ty T with
  | some (τ,_)=>match uJ lk τ (ev a) with
   | some v=>some (.none,v,none)
   | none=>none
  | none=>none
 | .nilCheck x=>match ev x with
  | .dn v=>some (.none, .dn v,none)
  | .ptr id off=>some (.none, .ptr id off,none)
  | .eY id i off=>some (.none, .eY id i off,none)
  | _=>none
 | .fieldAddr T x i=>match af E.ty T with
  | some (.st n,_)=>match ev x with
   | .dn v=>match v.Z9 (.st n) with
    | some y=>match (n.fields y)[i]? with
     | some f=>some (.none, .dn f,none)
     | none=>none
    | none=>none
   | .ptr id off=>match Nat.blt i n.ic.length with
    | true=>some (.none, .ptr id (off+n.gq i),none)
    | false=>none
   | .eY id k off=>match Nat.blt i n.ic.length with
    | true=>some (.none, .eY id k (off+n.gq i),none)
    | false=>none
   | _=>none
  | _=>none
 | .field T x i=>match af E.ty T with
  | some (.st n,_)=>match ev x with
   | .aW v=>match v.Z9 (.st n) with
    | some y=>match (n.fields y)[i]? with
     | some f=>some (.none, .aW f,none)
     | none=>none
    | none=>none
   | .agg cs=>match n.ic[i]? with
    | some τ=>match Hx cs (n.gq i) τ with
     | some v=>some (.none,v,none)
     | none=>none
    | none=>none
   | _=>none
  | _=>none
 | .indexAddr T x ix=>match af E.ty T with
  | some (
      .slice τ,_)=>match ev ix with
   | .aW ⟨.int _,n⟩=>match ev x with
    | .aW v=>match v.Z9 (.slice τ) with
     | some xs=>some (.some (aw n xs.length), .dn ⟨τ,xs.getD n.toNat τ.zero⟩,none)
     | none=>none
    | .row id=>match lk id with
     | some (.row _ bo xs)=>match decide (bo=τ) with
      | true=>some (.some (aw n xs.length), .eY id n.toNat 0,none)
      | false=>none
     | _=>none
    | _=>none
   | _=>none
  | _=>none
 | .index T x ix=>match af E.ty T with
  | some (.str,_)=>match ev ix with
   | .aW ⟨.int _,n⟩=>match ev x with
    | .aW ⟨.str,xs⟩=>some (.some (aw n xs.length), .aW ⟨.int .u8,((xs.getD n.toNat 0).toNat:Int)⟩,none)
    | _=>none
   | _=>none
  | _=>none
 | .binOp op T x y _=>match WG E op T (ev x) (ev y) with
  | some (p,v)=>some (p,v,none)
  | none=>match YL (match af E.ty T with
   | some (.bool,_)=>true
   | _=>false) (match o.dst with
   | some d=>E.wr.contains d
   | none=>false) op (ev x) (ev y) with
   | some (p,v)=>some (p,v,none)
   | none=>none
 | .unOp op _ x=>match op,ev x with
  | .not, .aW ⟨.bool,b⟩=>some (.none, .aW ⟨.bool,!b⟩,none)
  | .neg, .aW ⟨.int k,n⟩=>some (.some (cr k (-n)), .aW ⟨.int k,-n⟩,none)
  | _,_=>none
 | .convert src dst x=>match af E.ty src,af E.ty dst with
  | some (.int _,_),some (.int k,_)=>match ev x with
   | .aW ⟨.int _,n⟩=>some (.some (cr k n), .aW ⟨.int k,n⟩,none)
   | _=>none
  | _,_=>none
 | .slice T x lo hi mx=>match af E.ty T,mx with
  | some (.slice τ,_),none=>match ev x with
   | .aW v=>match v.Z9 (.slice τ) with
    | some xs=>match sB 0 (lo.map ev),sB (xs.length:Int) (hi.map ev) with
     | some l,some h=>some (.some (cW l h xs.length), .aW ⟨.slice τ,(xs.take h.toNat).drop l.toNat⟩,none)
     | _,_=>none
    | none=>none
   | _=>none
  | some (.str,_),none=>match ev x with
   | .aW ⟨.str,xs⟩=>match sB 0 (lo.map ev),sB (xs.length:Int) (hi.map ev) with
    | some l,some h=>some (.some (cW l h xs.length), .aW ⟨.str,(xs.take h.toNat).drop l.toNat⟩,none)
    | _,_=>none
   | _=>none
  | _,_=>none
 | .extract t i=>match ev t with
  | .kW vs=>match vs[i]? with
   | some v=>some (.none,v,none)
   | none=>none
  | _=>none
 | .makeSlice T l c=>match o.dst,af E.ty T with
  | some d,some (.slice τ,b,e)=>match ev l,ev c with
   | .aW ⟨.int .i64,n⟩, .aW ⟨.int .i64,m⟩=>some (.some (cH n m b), .row d,some (.row e τ (List.replicate n.toNat τ.zero)))
   | _,_=>none
  | _,_=>none
 | .call c=>match c.callee with
  | .builtin .len=>match c.argTypes.toList,c.args.toList.map ev with
   | [T],[v]=>match af E.ty T with
    | some (.slice _,_)=>match v with
     | .nil=>some (.none, .aW ⟨.int .i64,(0:Int)⟩,none)
     | .aW ⟨.slice _,xs⟩=>some (.none, .aW ⟨.int .i64,(xs.length:Int)⟩,none)
     | .row id=>match lk id with
      | some (.row _ _ xs)=>some (.none, .aW ⟨.int .i64,(xs.length:Int)⟩,none)
      | _=>none
     | _=>none
    | some (.str,_)=>match v with
     | .aW ⟨.str,xs⟩=>some (.none, .aW ⟨.int .i64,(xs.length:Int)⟩,none)
     | _=>none
    | none=>match v,af E.XZ T with
     | .mp _,some _=>none
     | _,_=>none
    | _=>none
   | _,_=>none
  | .builtin .append=>match o.dst,c.argTypes.toList with
   | some d,[T,T']=>match Nat.beq T T',af E.ty T with
    | true,some (.slice τ,b,e)=>match c.args.toList.map ev with
     | [.nil,y]=>match mS (MM lk) (.slice τ) y with
      | some ys=>some (.some (br ys.length b), .row d,some (.row e τ ys))
      | none=>none
     | _=>none
    | _,_=>none
   | _,_=>none
  | .builtin .max=>match c.args.toList.map ev with
   | [.aW ⟨.int k,m⟩, .aW ⟨.int k',n⟩]=>match decide (k'=k) with
    | true=>some (.none, .aW ⟨.int k,(max m n:Int)⟩,none)
    | false=>none
   | _=>none
  | .value (.func f)=>Hs E lk f c.argTypes.toList (c.args.toList.map ev)
  | .value (.tmp t)=>match ev (.tmp t) with
   | .fn f=>Hs E lk f c.argTypes.toList (c.args.toList.map ev)
   | .dq f cs=>B0 E lk (.dq f cs) c.argTypes.toList (c.args.toList.map ev)
   | .kI v=>B0 E lk (.kI v) c.argTypes.toList (c.args.toList.map ev)
   | _=>none
  | _=>none
 | .makeMap _ none=>none
 | .lookup _ _ _ _=>none
 | .makeFunc fn first captured=>match fn,first.toList,(captured.toList.map ev).all AV.a2b with
  | .func f,[],true=>match captured.toList.map ev with
   | []=>some (.none, .fn f,none)
   | cs=>some (.none, .dq f cs,none)
  | _,_,_=>none
 | _=>none
mutual
def AV.refs(id:Nat):AV->Bool
 | .ptr i _=>Nat.beq i id
 | .row i=>Nat.beq i id
 | .eY i _ _=>Nat.beq i id
 | .aE i=>Nat.beq i id
 | .sub i _ _ _=>Nat.beq i id
 | .fF i _ _ _=>Nat.beq i id
 | .mp i=>Nat.beq i id
 | .agg cs=>AV.iz id cs
 | .kW cs=>AV.iz id cs
 | .dq _ cs=>AV.iz id cs
 | _=>false
def AV.iz(id:Nat):List AV->Bool
 | []=>false
 | v::r=>match AV.refs id v with
  | true=>true
  | false=>AV.iz id r
end
def AV.kill(id:Nat)(v:AV):AV:=match v.refs id with
 | true => .any
 | false=>v
def aB.kill(id:Nat):aB->aB
 | .box cs => .box (cs.map (AV.kill id))
 | o=>o
def ah.cm(s:ah)(id:Nat):ah :=
 { aC:=s.aC.map (AV.kill id),aK:=s.aK.map λ p=>(p.1,p.2.kill id) }
def bW(id:Nat):List (Nat×aB)->List (Nat×aB)
 | []=>[]
 | (k,o)::r=>match Nat.beq k id with
  | true=>bW id r
  | false=>(k,o)::bW id r
def ah.put(s:ah)(d:Option Nat)(v:AV):ah :=
 match d with
 | some d=>{ s with aC:=s.aC.set d v }
 | none=>s
def ah.lay(s:ah)(d:Option Nat)(v:AV)(o:Option aB):ah :=
 match o,d with
 | some o,some d =>
  let s':=s.cm d
  { aC:=s'.aC.set d v,aK:=(d,o.kill d)::bW d s'.aK }
 | _,d=>s.put d v
mutual
def AV.rows:AV->List Nat
 | .row i=>[i]
 | .agg cs=>AV.ZH cs
 | _=>[]
def AV.ZH:List AV->List Nat
 | []=>[]
 | v::r=>AV.rows v++AV.ZH r
end
def UM(s:ah)(v:AV):List Nat :=
 match v with
 | .ptr id _=>match s.af id with
  | some (.box cs)=>AV.ZH cs
  | _=>[]
 | v=>v.rows
def a1N(s:ah)(v:AV):List Nat :=
 match v with
 | .dq _ cs=>cs.flatMap (UM s)
 | v=>UM s v
def om(E:Env)(s:ah)(o:Oper):List Nat :=
 match (match o.dst with
  | some d=>E.own.contains d
  | none=>false) with
 | true=>[]
 | false=>match o.op with
 | .buildSlice _ _ parts=>parts.toList.flatMap λ p=>(s.eval p.2).rows
 | .slice _ x _ _ _=>(s.eval x).rows
 | .store _ a x=>match s.eval a with
  | .eY _ _ _=>(s.eval x).rows
  | _=>[]
 | .call c=>match c.callee with
  | .value _=>match E.N8 (match c.callee with
    | .value (.func f)=>f
    | .value (.tmp t)=>match s.eval (.tmp t) with
     | .fn f=>f
     | _=>0
    | _=>0) (match px E s.af c.argTypes.toList (c.args.toList.map s.eval) with
     | some Z9=>Z9
     | none=>[]) with
   | some (_,res)=>match res.all TV.flat with
    | true=>[]
    | false=>c.args.toList.flatMap λ x=>a1N s (s.eval x)
   | none=>[]
  | _=>[]
 | _=>[]
mutual
def AV.Ic(id:Nat)(u:AV):AV->AV
 | .row i=>match Nat.beq i id with
  | true=>u
  | false => .row i
 | .eY i k off=>match Nat.beq i id with
  | true => .any
  | false => .eY i k off
 | .agg cs => .agg (AV.Ss id u cs)
 | .kW cs => .kW (AV.Ss id u cs)
 | .dq f cs => .dq f (AV.Ss id u cs)
 | v=>v
def AV.Ss(id:Nat)(u:AV):List AV->List AV
 | []=>[]
 | v::r=>AV.Ic id u v::AV.Ss id u r
end
def aB.Ic(id:Nat)(u:AV):aB->aB
 | .box cs => .box (AV.Ss id u cs)
 | o=>o
mutual
def AV.E2(id:Nat)(u:AV):AV->AV
 | .aE i=>match Nat.beq i id with
  | true=>u
  | false => .aE i
 | .sub i k off z=>match Nat.beq i id with
  | true => .any
  | false => .sub i k off z
 | .fF i k off z=>match Nat.beq i id with
  | true => .any
  | false => .fF i k off z
 | .agg cs => .agg (AV.Sr id u cs)
 | .kW cs => .kW (AV.Sr id u cs)
 | .dq f cs => .dq f (AV.Sr id u cs)
 | v=>v
def AV.Sr(id:Nat)(u:AV):List AV->List AV
 | []=>[]
 | v::r=>AV.E2 id u v::AV.Sr id u r
end
def aB.E2(id:Nat)(u:AV):aB->aB
 | .box cs => .box (AV.Sr id u cs)
 | o=>o
def ah.freeze(s:ah)(id:Nat):ah :=
 match s.af id with
 | some (.row _ τ xs) =>
  { aC:=AV.Ss id (.aW ⟨.slice τ,xs⟩) s.aC,aK:=(bW id s.aK).map λ p=>(p.1,p.2.Ic id (.aW ⟨.slice τ,xs⟩)) }
 | some (.aE τ xs) =>
  { aC:=AV.Sr id (.aW ⟨.slice τ,xs⟩) s.aC,aK:=(bW id s.aK).map λ p=>(p.1,p.2.E2 id (.aW ⟨.slice τ,xs⟩)) }
 | _=>s
def Rp(_:Env)(_:ah)(_:Option Nat)(_:TypeId)(_ _ _:Operand):Option (Vc×ah):=none
def V1(E:Env)(s:ah)(o:Oper):Option (Vc×ah) :=
 match o.op with
 | .mapUpdate T m k x=>Rp E s o.dst T m k x
 | .insert T m k x=>Rp E s o.dst T m k x
 | .store T a x=>match af E.ty T with
  | some (
      τ,_)=>match s.eval a with
   | .ptr id off=>match s.af id with
    | some (.box cs)=>match cellsOf τ (s.eval x) with
     | some new=>match putCells cs off new with
      | some dN=>some (.none,{ s with aK:=(id, .box dN)::bW id s.aK }.put o.dst .any)
      | none=>none
     | none=>none
    | _=>none
   | .eY id i 0=>match s.af id with
    | some (.row e' bo xs)=>match decide (bo=τ),EV (λ _=>none) bo (s.eval x) with
     | true,some x=>some (.none,{ s with aK:=(id, .row e' bo (xs.set i x))::bW id s.aK }.put o.dst .any)
     | _,_=>none
    | _=>none
   | _=>none
  | none=>none
 | .call c=>match c.callee with
  | .builtin .append=>match o.dst,c.argTypes.toList with
   | some d,[T,T']=>match Nat.beq T T',af E.ty T with
    | true,some (.slice τ,b,e)=>match c.args.toList.map s.eval with
     | [.row id,y]=>match s.af id,mS (MM s.af) (.slice τ) y with
      | some (.row e' bo xs),some ys=>match Nat.beq e' e,TV.Z9 (.slice τ) ⟨.slice bo,xs⟩ with
       | true,some dh =>
        let s':=s.cm id
        some (.some (br (dh.length+ys.length) b),{ aC:=s'.aC.set d (.row id),aK:=(id, .row e τ (dh++ys))::bW id s'.aK })
       | _,_=>none
      | _,_=>none
     | _=>none
    | _,_=>none
   | _,_=>none
  | _=>none
 | _=>none
def nodupB:List Nat->Bool
 | []=>true
 | a::r=>match r.contains a with
  | true=>false
  | false=>nodupB r
def dw:Option aB->Bool
 | some (.aE ..)=>true
 | _=>false
def n6(id:Nat):TV->AV
 | ⟨.slice _,_⟩ => .aE id
 | ⟨.mv _,_⟩ => .any
 | u => .aW u
def gL(id:Nat):TV->List (Nat×aB)
 | ⟨.slice τ,xs⟩=>[(id, .aE τ xs)]
 | _=>[]
def cv:Nat->List TV->List AV
 | _,[]=>[]
 | id,u::r=>n6 id u::cv (id+1) r
def cd:Nat->List TV->List (Nat×aB)
 | _,[]=>[]
 | id,u::r=>gL id u++cd (id+1) r
def lv(id:Nat):TV->AV
 | ⟨.st s,y⟩ => .agg (cv id (s.cells y))
 | v=>n6 id v
def M8:Nat->List TV->List AV
 | _,[]=>[]
 | id,v::r=>lv id v::M8 (id+20) r
def bx:Nat->List TV->List (Nat×aB)
 | _,[]=>[]
 | id,v::r=>cd id v.cells++bx (id+20) r
def nw(id:Nat):List TV->AV
 | [v]=>lv id v
 | vs => .kW (M8 id vs)
def Ty.agg:Ty->Bool
 | .st _=>true
 | _=>false
def Ty.AG:Ty->Bool
 | .int _ | .bool | .str | .ptr=>true
 | _=>false
def Ty.key:Ty->Bool
 | .int _ | .bool | .str=>true
 | _=>false
def Ty.plain:Ty->Bool
 | .st s=>s.xH.all Ty.AG
 | .slice _=>false
 | .mv _=>false
 | _=>true
def fZ(lk:Nat->Option aB)(τ:Ty):AV->Option (τ.den×List Nat)
 | .aW v=>match τ.AG,v.Z9 τ with
  | true,some y=>some (y,[])
  | _,_=>none
 | .nil=>match τ with
  | .slice _=>some ([],[])
  | _=>none
 | .aE id=>match lk id with
  | some (.aE bo xs)=>match TV.Z9 τ ⟨.slice bo,xs⟩ with
   | some y=>some (y,[id])
   | none=>none
  | _=>none
 | .row id=>match lk id with
  | some (.row _ bo xs)=>match bo.plain,TV.Z9 τ ⟨.slice bo,xs⟩ with
   | true,some y=>some (y,[id])
   | _,_=>none
  | _=>none
 | _=>none
def Np(lk:Nat->Option aB):List AV->List Ty->Option (List TV×List Nat)
 | [],[]=>some ([],[])
 | c::cs,t::ts=>match fZ lk t c with
  | some (x,i)=>match Np lk cs ts with
   | some (r,j)=>some (⟨t,x⟩::r,i++j)
   | none=>none
  | none=>none
 | _,_=>none
def Lc(lk:Nat->Option aB)(τ:Ty):AV->Option (τ.den×List Nat)
 | .agg cs=>match τ with
  | .st s=>match Np lk cs s.xH with
   | some (l,ids)=>match s.gX l with
    | some y=>some (y,ids)
    | none=>none
   | none=>none
  | _=>none
 | v=>fZ lk τ v
mutual
def AV.Nk:AV->Bool
 | .sub .. => true
 | .agg cs=>AV.rH cs
 | .kW cs=>AV.rH cs
 | .dq _ cs=>AV.rH cs
 | _=>false
def AV.rH:List AV->Bool
 | []=>false
 | v::r=>match AV.Nk v with
  | true=>true
  | false=>AV.rH r
end
def AV.dm(v:AV):AV:=match v.Nk with
 | true => .any
 | false=>v
def aB.dm:aB->aB
 | .box cs => .box (cs.map AV.dm)
 | o=>o
def ah.cM(s:ah):ah:={ aC:=s.aC.map AV.dm,aK:=s.aK.map λ p=>(p.1,p.2.dm) }
def ah.mO(s:ah)(id:Nat)(τ:Ty)(xs:List τ.den):ah :=
 { s with aK:=(id, .aE τ xs)::bW id s.aK }
def ah.gone(s:ah)(id:Nat):ah :=
 let s':=s.cm id
 { s' with aK:=bW id s'.aK }
def qD(τ:Ty)(x:τ.den)(off:Nat)(u:TV):Option τ.den :=
 match τ with
 | .st s=>match (s.cells x)[off]? with
  | some v=>match decide (v.τ=u.τ) with
   | true=>s.gX ((s.cells x).set off u)
   | false=>none
  | none=>none
 | τ=>match Nat.beq off 0 with
  | true=>u.Z9 τ
  | false=>none
def Ty.full:Ty->Ty
 | .mv t => .slice t
 | t=>t
def Ty.a4T:Ty->Ty->Bool
 | .st p, .st q=>decide (p.xH.map Ty.full=q.xH)
 | _,_=>false
def Ty.Rq:Ty->Bool
 | .mv _=>true
 | t=>t.AG
def Y0:TV->TV
 | ⟨.mv t,o⟩=>⟨.slice t,Option.getD (α:=List t.den) o []⟩
 | u=>u
def V0:TV->TV
 | ⟨.mv t,_⟩=>⟨.mv t,(none:Option (List t.den))⟩
 | u=>u
def Bw:List TV->Prop
 | []=>True
 | ⟨.mv t,o⟩::r=>Option.isSome (α:=List t.den) o=true/\Bw r
 | _::r=>Bw r
def a3T(_:ah)(_:Nat)(_:UF)(_:List AV):Option (Vc×ah):=none
def WJ(E:Env)(s:ah)(o:Oper):Option (Vc×ah) :=
 match o.op with
 | .indexAddr T x ix=>match af E.ty T with
  | some (.slice τ,_)=>match s.eval ix,s.eval x with
   | .aW ⟨.int _,n⟩, .aE id=>match s.af id with
    | some (.aE bo xs)=>match decide (bo=τ)||bo.a4T τ with
     | true=>some (.some (aw n xs.length),s.put o.dst (.fF id n.toNat 0 τ.size))
     | false=>none
    | _=>none
   | _,_=>none
  | _=>none
 | .fieldAddr T x i=>match af E.ty T with
  | some (.st n,_)=>match s.eval x with
   | .fF id k off sz=>match Nat.blt i n.ic.length with
    | true=>some (.none,s.put o.dst (.fF id k (off+n.gq i) sz))
    | false=>none
   | _=>none
  | _=>none
 | .load T ad=>match af E.ty T with
  | some (
      τ,_)=>match s.eval ad with
   | .fF id i off sz=>match s.af id with
    | some (.aE bo xs)=>match TV.part ⟨bo,xs.getD i bo.zero⟩ off τ,Nat.beq bo.size sz&&(!τ.agg&&Nat.blt off bo.size) with
     | some u,true=>match τ.AG with
      | true=>some (.none,s.put o.dst (.aW u))
      | false=>some (.none,s.put o.dst (.sub id i off sz))
     | _,_=>none
    | _=>none
   | _=>none
  | none=>none
 | .store T ad x=>match af E.ty T with
  | some (
      τ,_)=>match s.eval ad with
   | .fF id i off sz=>match s.af id with
    | some (
        .aE bo xs)=>match Nat.beq bo.size sz&&Nat.blt off bo.size with
     | true=>match τ.AG with
      | true=>match fZ (λ _=>none) τ (s.eval x) with
       | some (u,_)=>match TV.part ⟨bo,xs.getD i bo.zero⟩ off τ,qD bo (xs.getD i bo.zero) off ⟨τ,u⟩ with
        | some _,some y=>some (.none,(s.cM.mO id bo (xs.set i y)).put o.dst .any)
        | _,_=>none
       | none=>none
      | false=>match Nat.beq off 0,Lc s.af τ (s.eval x) with
       | true,some (y,ids)=>match nodupB (id::ids),TV.Z9 bo ⟨τ,y⟩ with
        | true,some y'=>some (.none,((ids.foldl ah.gone s).cM.mO id bo (xs.set i y')).put o.dst .any)
        | _,_=>none
       | _,_=>none
     | false=>none
    | _=>none
   | _=>none
  | none=>none
 | .makeSlice T l cc=>match o.dst,af E.ty T with
  | some d,some (.slice τ,b,_)=>match E.own.contains d&&Nat.blt d 50 with
   | true=>match s.eval l,s.eval cc with
    | .aW ⟨.int .i64,n⟩, .aW ⟨.int .i64,m⟩=>some (.some (cH n m b),{ aC:=(s.gone d).aC.set d (.aE d),aK:=(d, .aE τ (List.replicate n.toNat τ.zero))::(s.gone d).aK })
    | _,_=>none
   | false=>none
  | _,_=>none
 | .call c=>match c.callee with
  | .builtin .len=>match c.argTypes.toList,c.args.toList.map s.eval with
   | [T],[.aE id]=>match af E.ty T,s.af id with
    | some (.slice _,_),some (.aE _ xs)=>some (.none,s.put o.dst (.aW ⟨.int .i64,(xs.length:Int)⟩))
    | _,_=>none
   | _,_=>none
  | .value (
       .func f)=>match o.dst with
   | some d=>match E.own.contains d with
    | true=>match E.mark f with
     | some m=>a3T s d m (c.args.toList.map s.eval)
     | none=>match px E s.af c.argTypes.toList (c.args.toList.map s.eval) with
      | some Z9=>match E.MN f Z9 with
       | some (pre,res)=>match ((bx (100 * (d+1)) res).all λ p=>(s.af p.1).isNone)&&nodupB ((bx (100 * (d+1)) res).map (·.1)) with
        | true=>some (pre,{ aC:=s.aC.set d (nw (100 * (d+1)) res),aK:=bx (100 * (d+1)) res++s.aK })
        | false=>none
       | none=>none
      | none=>none
    | false=>none
   | none=>none
  | _=>none
 | _=>none
def bY(d:Nat):Nat:=100 * (d+1)
def He(lk:Nat->Option aB)(τ:Ty):Nat->List (Nat×AV)->Option (List τ.den×List Nat)
 | _,[]=>some ([],[])
 | n,(
    i,v)::r=>match Nat.beq i n with
  | true=>match Lc lk τ v with
   | some (x,ids)=>match He lk τ (n+1) r with
    | some (xs,js)=>some (x::xs,ids++js)
    | none=>none
   | none=>none
  | false=>none
def ah.uT(s:ah)(d:Nat)(τ:Ty)(xs:List τ.den):ah :=
 { aC:=s.aC.set d (.aE (bY d)),aK:=(bY d, .aE τ xs)::s.aK }
def jx(E:Env)(lk:Nat->Option aB):List Bool->List TypeId->List AV->Option (List (Option TV)×List Nat)
 | [],[],[]=>some ([],[])
 | true::fl,T::Ts,v::vs=>match af E.ty T with
  | some (τ,_)=>match Lc lk τ v with
   | some (x,i)=>match jx E lk fl Ts vs with
    | some (r,j)=>some (some ⟨τ,x⟩::r,i++j)
    | none=>none
   | none=>none
  | none=>none
 | false::fl,_::Ts,_::vs=>match jx E lk fl Ts vs with
  | some (r,j)=>some (none::r,j)
  | none=>none
 | _,_,_=>none
def gK(E:Env)(lk:Nat->Option aB):List (Option TV)->List TypeId->List AV->Option (List Arg)
 | [],[],[]=>some []
 | some x::r,_::Ts,_::vs=>match gK E lk r Ts vs with
  | some Z9=>some (.own x::Z9)
  | none=>none
 | none::r,T::Ts,v::vs=>match RP E lk T v with
  | some x=>match x.La,gK E lk r Ts vs with
   | true,some Z9=>some (x::Z9)
   | _,_=>none
  | none=>none
 | _,_,_=>none
def VW(E:Env)(s:ah)(o:Oper):Option (Vc×ah) :=
 match o.dst with
 | some d=>match E.own.contains d with
  | true=>match o.op with
   | .buildSlice T len parts=>match af E.ty T with
    | some (.slice τ,_)=>match Nat.beq parts.size len&&Nat.ble len 1000 with
     | true=>match He s.af τ 0 (parts.toList.map λ p=>(p.1,s.eval p.2)) with
      | some (xs,ids)=>match nodupB ids,(ids.foldl ah.gone s).af (bY d) with
       | true,none=>some (.none,(ids.foldl ah.gone s).uT d τ xs)
       | _,_=>none
      | none=>none
     | false=>none
    | _=>none
   | .load T ad=>match af E.ty T,s.eval ad with
    | some (.st q,_), .fF id i 0 sz=>match s.af id with
     | some (.aE (.st p) xs)=>match Nat.beq p.size sz&&p.xH.all Ty.Rq,p.gX ((p.cells (xs.getD i (Ty.zero (.st p)))).map V0),q.gX ((p.cells (xs.getD i (Ty.zero (.st p)))).map Y0) with
      | true,some y,some z=>match ((cd (bY d) (q.cells z)).all λ e=>(s.af e.1).isNone)&&nodupB ((cd (bY d) (q.cells z)).map (·.1)) with
       | true=>some (.some (Bw (p.cells (xs.getD i (Ty.zero (.st p))))),{ aC:=s.cM.aC.set d (lv (bY d) ⟨.st q,z⟩),aK:=cd (bY d) (q.cells z)++(s.cM.mO id (.st p) (xs.set i y)).aK })
       | false=>none
      | _,_,_=>none
     | _=>none
    | _,_=>none
   | .call c=>match c.callee with
    | .builtin .append=>match c.argTypes.toList with
     | [T,T']=>match Nat.beq T T',af E.ty T with
      | true,some (.slice τ,b,_)=>match c.args.toList.map s.eval with
       | [x,y]=>match fZ s.af (.slice τ) x,fZ s.af (.slice τ) y with
        | some (xs,i),some (ys,j)=>match nodupB (i++j),((i++j).foldl ah.gone s).af (bY d) with
         | true,none=>some (.some (br (xs.length+ys.length) b),((i++j).foldl ah.gone s).uT d τ (xs++ys))
         | _,_=>none
        | _,_=>none
       | _=>none
      | _,_=>none
     | _=>none
    | .value (
         .func f)=>match E.tk f with
     | []=>none
     | fl=>match jx E s.af fl c.argTypes.toList (c.args.toList.map s.eval) with
      | some (own,ids)=>match nodupB ids,gK E (ids.foldl ah.gone s).af own c.argTypes.toList (c.args.toList.map (ids.foldl ah.gone s).eval) with
       | true,some Z9=>match E.MN f Z9 with
        | some (pre,res)=>match ((bx (bY d) res).all λ p=>((ids.foldl ah.gone s).af p.1).isNone)&&nodupB ((bx (bY d) res).map (·.1)) with
         | true=>some (pre,{ aC:=(ids.foldl ah.gone s).aC.set d (nw (bY d) res),aK:=bx (bY d) res++(ids.foldl ah.gone s).aK })
         | false=>none
        | none=>none
       | _,_=>none
      | none=>none
    | _=>none
   | _=>none
  | false=>none
 | none=>none
def lC:List (Option Nat)->List AV->List (Nat×Nat)->Option (List (Nat×Nat))
 | [],[],m=>some m
 | some k::fl,v::vs,m=>match v with
  | .ptr id 0=>match af m k with
   | some i=>match Nat.beq i id with
    | true=>lC fl vs m
    | false=>none
   | none=>lC fl vs ((k,id)::m)
  | _=>none
 | none::fl,_::vs,m=>lC fl vs m
 | _,_,_=>none
def dk(lk:Nat->Option aB):List CK->List AV->List (Nat×Nat)->Option (List TV×List Nat×List (Nat×Nat))
 | [],[],m=>some ([],[],m)
 | .d τ::ks,v::vs,m=>match mS (λ _=>none) τ v,τ.agg with
  | some x,false=>match dk lk ks vs m with
   | some (ds,ids,m)=>some (⟨τ,x⟩::ds,ids,m)
   | none=>none
  | _,_=>none
 | .o τ::ks,v::vs,m=>match fZ lk τ v,τ.agg with
  | some (x,i),false=>match dk lk ks vs m with
   | some (ds,ids,m)=>some (⟨τ,x⟩::ds,i++ids,m)
   | none=>none
  | _,_=>none
 | .p j::ks,v::vs,m=>match v with
  | .ptr id 0=>match af m j with
   | some i=>match Nat.beq i id with
    | true=>dk lk ks vs m
    | false=>none
   | none=>dk lk ks vs ((j,id)::m)
  | _=>none
 | _,_,_=>none
def lg(lk:Nat->Option aB):List (List CK)->Nat->List (Nat×Nat)->Option (List (List TV)×List Nat×List (Nat×Nat))
 | [],_,m=>some ([],[],m)
 | ks::sh,k,m=>match af m k with
  | some id=>match lk id with
   | some (.box cs)=>match dk lk ks cs m with
    | some (ds,i,m)=>match lg lk sh (k+1) m with
     | some (ca,ids,m)=>some (ds::ca,i++ids,m)
     | none=>none
    | none=>none
   | _=>none
  | none=>none
def Bd(lk:Nat->Option aB)(ids:List Nat)(id:Nat):Option aB:=match ids.contains id with
 | true=>none
 | false=>match lk id with
  | some (.box cs)=>some (.box cs)
  | _=>none
def Arg.a5K:Arg->Bool
 | .dq _=>false
 | _=>true
def uB(E:Env)(lk:Nat->Option aB):List (Option Nat)->List TypeId->List AV->Option (List Arg)
 | [],[],[]=>some []
 | some k::fl,_::Ts,_::vs=>match uB E lk fl Ts vs with
  | some r=>some (.box k::r)
  | none=>none
 | none::fl,T::Ts,v::vs=>match RP E lk T v with
  | some x=>match x.a5K,uB E lk fl Ts vs with
   | true,some r=>some (x::r)
   | _,_=>none
  | none=>none
 | _,_,_=>none
def cj(m:List (Nat×Nat)):List CK->List AV->List TV->Nat->Option (List AV×List (Nat×aB)×Nat)
 | [],[],[],n=>some ([],[],n)
 | .d τ::ks,_::cs,v::ds,n=>match decide (v.τ=τ) with
  | true=>match cj m ks cs ds n with
   | some (r,os,n)=>some (.aW v::r,os,n)
   | none=>none
  | false=>none
 | .o τ::ks,_::cs,v::ds,n=>match decide (v.τ=τ) with
  | true=>match cj m ks cs ds (n+1) with
   | some (r,os,n')=>some (n6 n v::r,gL n v++os,n')
   | none=>none
  | false=>none
 | .p j::ks,c::cs,ds,n=>match c with
  | .ptr id 0=>match af m j with
   | some i=>match Nat.beq i id,cj m ks cs ds n with
    | true,some (r,os,n)=>some (.ptr id 0::r,os,n)
    | _,_=>none
   | none=>none
  | _=>none
 | _,_,_,_=>none
def ur(lk:Nat->Option aB)(m:List (Nat×Nat)):List (List CK)->Nat->List (List TV)->Nat->Option (List (Nat×aB)×List (Nat×aB))
 | [],_,[],_=>some ([],[])
 | ks::sh,k,ds::ca,n=>match af m k with
  | some id=>match lk id with
   | some (.box cs)=>match cj m ks cs ds n with
    | some (r,os,n)=>match ur lk m sh (k+1) ca n with
     | some (bs,ts)=>some ((id, .box r)::bs,os++ts)
     | none=>none
    | none=>none
   | _=>none
  | none=>none
 | _,_,_,_=>none
def iW:List Nat->List (Nat×aB)->List (Nat×aB)
 | [],os=>os
 | id::r,os=>iW r (bW id os)
def WQ(E:Env)(s:ah)(o:Oper):Option (Vc×ah) :=
 match o.dst with
 | some d=>match o.op with
  | .call c=>match c.callee with
   | .value (
        .func f)=>match E.sk f with
    | some sk=>match lC sk.ps (c.args.toList.map s.eval) [] with
     | some m0=>match lg s.af sk.sh 0 m0 with
      | some (
          ca,ids,m)=>match nodupB ids&&(nodupB (m.map (·.1))&&(nodupB (m.map (·.2))&&Nat.beq m.length sk.sh.length)) with
       | true=>match uB E (Bd (ids.foldl ah.gone s).af (m.map (·.2))) sk.ps c.argTypes.toList (c.args.toList.map (ids.foldl ah.gone s).eval) with
        | some Z9=>match E.Vz f Z9 ca with
         | some (pre,res,gf)=>match ur (ids.foldl ah.gone s).af m sk.sh 0 gf (bY d+60) with
          | some (bs,ts)=>match ((bx (bY d) res++ts).all λ p=>((ids.foldl ah.gone s).af p.1).isNone)&&nodupB ((bx (bY d) res++ts).map (·.1)) with
           | true=>some (pre,{ aC:=(ids.foldl ah.gone s).aC.set d (nw (bY d) res),aK:=bs++(bx (bY d) res++ts)++iW (m.map (·.2)) (ids.foldl ah.gone s).aK })
           | false=>none
          | none=>none
         | none=>none
        | none=>none
       | false=>none
      | none=>none
     | none=>none
    | none=>none
   | _=>none
  | _=>none
 | none=>none
def known(v:AV)(K:Prop):Prop :=
 match v with
 | .aW ⟨.int .i64,n⟩=>O n->K
 | .aW ⟨.slice _,xs⟩=>xs.length<=140737488355328->K
 | .aW ⟨.str,xs⟩=>xs.length<=140737488355328->K
 | _=>K
def TX:Op->Bool
 | .load .. | .field .. | .index .. | .extract .. => true
 | .call c=>match c.callee with
  | .builtin .append=>false
  | _=>true
 | _=>false
def vL:Option Nat->Bool
 | none=>true
 | some d=>Nat.blt d 400000
def AV.stays:AV->Bool
 | .aW v=>match v.τ with
  | .ptr=>false
  | _=>true
 | .dn _=>true
 | _=>false
def a7u:Bool×TV->AV
 | (true,v) => .dn v
 | (false,v) => .aW v
def WH(E:Env)(s:ah)(o:Oper):Option (Vc×AV×Option aB):=match o.op with
 | .call c=>match c.callee with
  | .value (.func f)=>match o.dst with
   | some d=>match px E (uN s.af) c.argTypes.toList (c.args.toList.map s.eval) with
    | some Z9=>match E.Tb f Z9 with
     | some (pre, .box cells)=>some (pre, .ptr d 0,some (.box (cells.map .aW)))
     | some (pre, .row e τ xs)=>some (pre, .row d,some (.row e τ xs))
     | some (pre, .res l)=>match (c.args.toList.map s.eval).all AV.stays with
      | true=>some (pre, .kW (l.map a7u),none)
      | false=>none
     | none=>none
    | none=>none
   | none=>none
  | _=>none
 | _=>none
def oC(E:Env)(o:Oper)(K:ah->Prop)(s:ah):Prop :=
 match vL o.dst with
 | false=>False
 | true =>
 let s:=(om E s o).foldl ah.freeze s
 match WQ E s o with
 | some (vc,s')=>vc.and (K s')
 | none=>match VW E s o with
 | some (vc,s')=>vc.and (K s')
 | none=>match V1 E s o with
 | some (vc,s')=>vc.and (K s')
 | none=>match WJ E s o with
 | some (vc,s')=>vc.and (K s')
 | none=>match WH E s o with
 | some (vc,v,ob)=>vc.and (K (s.lay o.dst v ob))
 | none=>match K3 E s.af s.eval o with
  | some (vc,v,ob)=>vc.and (match TX o.op with
   | true=>known v (K (s.lay o.dst v ob))
   | false=>K (s.lay o.dst v ob))
  | none=>False
def xM(ops:Array Oper)(g:Nat):Option Nat:=(ops[g]?).bind (·.dst)
def gb(
      E:Env) (ops:Array Oper):List Oper->List (Nat×Bool)->(ah->Prop)->ah->Prop
 | [],_,Q,s=>Q s
 | o::r,kn,Q,s=>match o.guard with
  | none=>oC E o (gb E ops r kn Q) s
  | some (
      g,want)=>match xM ops g with
   | none=>False
   | some t=>match af kn t with
    | some b=>match s.eval (.tmp t) with
     | .aW ⟨.bool,b'⟩=>match b' == b,b == want with
      | true,true=>oC E o (gb E ops r kn Q) s
      | true,false=>gb E ops r kn Q (s.put o.dst .eG)
      | false,_=>False
     | .eG=>gb E ops r kn Q (s.put o.dst .eG)
     | _=>False
    | none=>match s.eval (.tmp t) with
     | .aW ⟨.bool,b⟩ =>
      (b=want->oC E o (gb E ops r ((t,want)::kn) Q) (s.put (some t) (.aW ⟨.bool,want⟩))) /\
      (b = !want->gb E ops r ((t,!want)::kn) Q ((s.put (some t) (.aW ⟨.bool,!want⟩)).put o.dst .eG))
     | .eG=>gb E ops r kn Q (s.put o.dst .eG)
     | _=>False
def xk(acc:List Nat)(s:Nat)(e:Edge):Nat :=
 match Region.binds .any e with
 | true=>s ||| (1 <<< e.on ||| acc.getD e.on 0)
 | false=>s
def b9:List Oper->List Nat->List Nat
 | [],acc=>acc
 | o::r,acc=>b9 r (acc++[o.after.toList.foldl (xk acc) 0])
def qG:List Nat->Nat->Nat->Nat
 | [],_,m=>m
 | b::r,i,m=>match Nat.beq (b+1) (2 ^ i) with
  | true=>qG r (i+1) m
  | false=>qG r (i+1) (i+1)
def cB(ops:List Oper)(k:Nat):Option Nat:=(ops[k]?).bind (·.dst)
def hidden(ops:List Oper)(m bits t:Nat):Bool:=(List.range m).any λ k=>match cB ops k with
 | some d=>match Nat.beq d t with
  | true => !Nat.testBit bits k
  | false=>false
 | none=>false
def Ug(ops:List Oper)(m bits:Nat)(s:ah):Operand->AV
 | .tmp t=>match hidden ops m bits t with
  | true => .any
  | false=>s.eval (.tmp t)
 | x=>s.eval x
def QM(ops:List Oper)(m bits:Nat)(s:ah)(id:Nat):Option aB:=match hidden ops m bits id with
 | true=>none
 | false=>s.af id
def xG:Op->Bool
 | .alloc _ | .box .. | .buildSlice .. | .makeSlice .. | .makeMap .. => true
 | .call c=>match c.callee with
  | .builtin .append=>true
  | _=>false
 | _=>false
def ah.fresh(s:ah)(o:Oper):ah :=
 match xG o.op,o.dst with
 | true,some d=>let s':=s.cm d
  { s' with aK:=bW d s'.aK }
 | _,_=>s
def ah.mH(s:ah)(d:Option Nat)(v:AV)(o:Option aB):ah :=
 match d with
 | some d=>{ aC:=s.aC.set d v,aK:=match o with
  | some o=>(d,o)::s.aK
  | none=>s.aK }
 | none=>s
def Ng(E:Env)(ops:List Oper)(m bits:Nat)(o:Oper)(K:ah->Prop)(s:ah):Prop :=
 match om E s o with
 | []=>match K3 E (QM ops m bits s) (Ug ops m bits s) o with
  | some (vc,v,ob)=>vc.and (K (s.mH o.dst v ob))
  | none=>False
 | _=>False
def pF(
      E:Env) (ops:List Oper) (m:Nat) (cf:List Nat):Nat->List Oper->List (Nat×Bool)->(List (Nat×Bool)->ah->Prop)->ah->Prop
 | _,[],kn,Q,s=>Q kn s
 | i,o::r,kn,Q,s=>match o.guard with
  | none=>Ng E ops m (cf.getD i 0) o (pF E ops m cf (i+1) r kn Q) s
  | some (
      g,want)=>match cB ops g,Nat.testBit (cf.getD i 0) g with
   | some t,true=>match af kn t with
    | some b=>match s.eval (.tmp t) with
     | .aW ⟨.bool,b'⟩=>match b' == b,b == want with
      | true,true=>Ng E ops m (cf.getD i 0) o (pF E ops m cf (i+1) r kn Q) s
      | true,false=>pF E ops m cf (i+1) r kn Q (s.put o.dst .eG)
      | false,_=>False
     | .eG=>pF E ops m cf (i+1) r kn Q (s.put o.dst .eG)
     | _=>False
    | none=>match s.eval (.tmp t) with
     | .aW ⟨.bool,b⟩ =>
      (b=want->Ng E ops m (cf.getD i 0) o (pF E ops m cf (i+1) r ((t,want)::kn) Q) (s.put (some t) (.aW ⟨.bool,want⟩))) /\
      (b = !want->pF E ops m cf (i+1) r ((t,!want)::kn) Q ((s.put (some t) (.aW ⟨.bool,!want⟩)).put o.dst .eG))
     | .eG=>pF E ops m cf (i+1) r kn Q (s.put o.dst .eG)
     | _=>False
   | _,_=>False
def distinct:List (Option Nat)->Bool
 | []=>true
 | none::_=>false
 | some d::r=>match r.any λ x=>match x with
   | some e=>Nat.beq d e
   | none=>false with
  | true=>false
  | false=>distinct r
def backward(ops:List Oper):Bool:=(List.range ops.length).all λ i=>match ops[i]? with
 | some o=>o.after.toList.all λ e=>match Region.binds .any e with
  | true=>Nat.blt e.on i
  | false=>true
 | none=>true
def xm(ops:List Oper)(s:ah)(K:Prop):Prop :=
 match ops with
 | []=>K
 | o::r=>match TX o.op,o.dst with
  | true,some d=>known (s.aC.getD d .any) (xm r s K)
  | _,_=>xm r s K
def SR(cf:List Nat)(p:Nat):Bool:=(cf.drop p).all λ b=>Nat.beq (b % 2 ^ p) (2 ^ p - 1)
def VY(cf:List Nat):List Nat->List Nat
 | []=>[]
 | p::r=>match SR cf p with
  | true=>p::VY cf r
  | false=>VY cf r
def xJ:List (Option Nat)->Bool
 | []=>true
 | none::r=>xJ r
 | some d::r=>match r.any λ x=>match x with
   | some e=>Nat.beq d e
   | none=>false with
  | true=>false
  | false=>xJ r
def F6(l:List Oper)(lo hi:Nat):Bool :=
 ((
  (l.take hi).drop lo).all λ o=>vL o.dst)&&xJ (((l.take hi).drop lo).map (·.dst))&&(l.take lo).all λ o=>match o.dst with
  | none=>true
  | some d => !(((l.take hi).drop lo).any λ p=>match p.dst with
   | some e=>Nat.beq d e
   | none=>false)
def Oper.alone(E:Env)(o:Oper):Bool:=match o.op with
 | .store .. | .mapUpdate .. | .insert .. => true
 | _=>match o.dst with
  | some d=>E.own.contains d
  | none=>false
def yR(u v:TV):Prop:=match u.Z9 v.τ with
 | some x=>x=v.x
 | none=>False
def WK:Op->Option (List Operand)
 | .move x | .assign x | .nilCheck x | .fieldAddr _ x _ | .load _ x | .box _ x | .extract x _=>some [x]
 | .indexAddr _ x i | .store _ x i | .lookup _ x i _=>some [x,i]
 | .mapUpdate _ m k x | .insert _ m k x=>some [m,k,x]
 | .makeMap _ none=>some []
 | .alloc _=>some []
 | .binOp _ _ x y _=>some [x,y]
 | .build _ ps=>some (ps.toList.map (·.2))
 | .buildSlice _ _ ps=>some (ps.toList.map (·.2))
 | .call c=>match c.callee with
  | .value f=>some (f::c.args.toList)
  | .builtin _=>some c.args.toList
  | _=>none
 | .pick c x y=>some [c,x,y]
 | .slice _ x l h m=>some (x::(l.toList++(h.toList++m.toList)))
 | _=>none
def iq(D:List Nat)(o:Oper):Bool:=match WK o.op with
 | some l=>l.all λ x=>match x with
  | .tmp t => !D.contains t
  | _=>true
 | none=>false
def reads:Op->Bool
 | .move _ | .nilCheck _ | .fieldAddr .. | .load .. | .indexAddr .. => true
 | _=>false
def rop(E:Env)(s:ah)(o:Oper):Option (Vc×AV):=match reads o.op with
 | true=>match K3 E s.af s.eval o with
  | some (vc,v,none)=>some (vc,v)
  | _=>none
 | false=>none
def Lw:AV->AV->Prop
 | .aW v, .aW u=>yR v u
 | .dn v, .dn u=>yR v u
 | .aE i, .aE j=>i=j
 | .row i, .row j=>i=j
 | .ptr i p, .ptr j q=>i=j/\p=q
 | .nil, .nil=>True
 | .eG, .eG=>True
 | _,_=>False
def RU:List AV->List AV->Prop
 | [],[]=>True
 | a::Z9,b::bs=>Lw a b/\RU Z9 bs
 | _,_=>False
def VU(a b:AV):Prop:=match a,b with
 | .agg Z9, .agg bs=>RU Z9 bs
 | a,b=>Lw a b
def jL(E:Env):List (Nat×Oper)->ah->Prop->Prop
 | [],_,K=>K
 | r::rs,s,K=>match r.2.dst,rop E s r.2 with
  | some d,some (vc,v)=>vc.and (VU v (s.aC.getD d .any)/\jL E rs s K)
  | _,_=>False
def Lx(E:Env):List (Nat×Oper)->(ah->Prop)->ah->Prop
 | [],K,s=>K s
 | r::rs,K,s=>match r.2.dst,rop E s r.2 with
  | some d,some (vc,v)=>vc.and (known v (Lx E rs K (s.put (some d) v)))
  | _,_=>False
def dstsOf(R:List (Nat×Oper)):List Nat:=R.filterMap λ r=>r.2.dst
def qt:Op->Bool
 | .alloc _=>true
 | _=>false
def nj:Op->Bool
 | .extract .. => true
 | _=>false
def wZ:Op->Bool
 | .buildSlice _ len ps=>Nat.beq len 0&&Nat.beq ps.size 0
 | _=>false
def G6(E:Env)(o:Oper):Bool:=match o.dst with
 | some d=>E.ro.contains d
 | none=>false
def dF(E:Env)(o:Oper):Bool:=qt o.op||(nj o.op||(wZ o.op&&G6 E o))
def uI(E:Env)(X:List (Nat×Oper)):List Nat:=X.filterMap λ x=>match dF E x.2 with
 | true=>x.2.dst
 | false=>none
def zM(s:ah):Op->Bool
 | .extract t i=>match s.eval t with
  | .kW vs=>Nat.blt i vs.length
  | _=>false
 | _=>true
def WC(E:Env)(cf:List Nat)(X:List (Nat×Oper))(s:ah):Bool:=X.all λ e=>zM s e.2.op||X.any λ y => !dF E y.2&&Nat.testBit (cf.getD e.1 0) y.1
def MC(cf:List Nat)(x:Nat×Oper):List (Nat×Oper)->List (Nat×Oper)
 | []=>[x]
 | y::ys=>match Nat.testBit (cf.getD y.1 0) x.1 with
  | true=>x::y::ys
  | false=>y::MC cf x ys
def KN(E:Env)(cf:List Nat):List (Nat×Oper)->List (Nat×Oper)
 | []=>[]
 | x::xs=>match dF E x.2 with
  | true=>MC cf x (KN E cf xs)
  | false=>x::KN E cf xs
def sw(E:Env)(o:Oper):Bool:=match o.op with
 | .alloc T=>o.dst.isSome&&(vL o.dst&&(af E.ty T).isSome)
 | .extract .. => o.dst.isSome
 | .buildSlice T len ps => !(Nat.beq len 0&&Nat.beq ps.size 0&&G6 E o)||(match o.dst,af E.ty T with
  | some d,some (.slice _,_)=>Nat.blt d 400000&&(E.ro.contains d && !E.own.contains d)
  | _,_=>false)
 | _=>true
def R6(E:Env)(cf:List Nat)(X:List (Nat×Oper))(y:Nat×Oper):Bool := !dF E y.2&&X.all λ z=>dF E z.2 || !Nat.testBit (cf.getD y.1 0) z.1
def B1(p:Nat×Oper->Bool)(f:Nat×Oper->Prop):List (Nat×Oper)->Prop
 | []=>True
 | y::ys=>match p y with
  | true=>f y/\B1 p f ys
  | false=>B1 p f ys
def kH(E:Env)(cf:List Nat):Nat->List (Nat×Oper)->List (Nat×Oper)->(ah->Prop)->ah->Prop
 | 0,_,X,K,s=>match X with
  | []=>K s
  | _::_=>False
 | n+1,R,X,K,s=>match X with
  | []=>K s
  | x::xs=>match WC E cf (x::xs) s with
   | true=>match iq (dstsOf (R.filter λ r => !Nat.testBit (cf.getD x.1 0) r.1)++uI E xs) x.2&&xs.all λ y=>dF E y.2||Nat.testBit (cf.getD y.1 0) x.1 with
    | true=>oC E x.2 (λ s'=>jL E (R.filter λ r => !Nat.testBit (cf.getD x.1 0) r.1) s' (kH E cf n (R.filter λ r => !Nat.testBit (cf.getD x.1 0) r.1) xs K s')) s
    | false=>match dF E x.2 with
     | true=>False
     | false=>B1 (R6 E cf (x::xs)) (λ y=>match iq (dstsOf (R.filter λ r => !Nat.testBit (cf.getD y.1 0) r.1)++uI E ((x::xs).filter λ z => !Nat.beq z.1 y.1)) y.2 with
      | true=>oC E y.2 (λ s'=>jL E (R.filter λ r => !Nat.testBit (cf.getD y.1 0) r.1) s' (kH E cf n (R.filter λ r => !Nat.testBit (cf.getD y.1 0) r.1) ((x::xs).filter λ z => !Nat.beq z.1 y.1) K s')) s
      | false=>False) (x::xs)
   | false=>False
def oQ:Nat->List Oper->List (Nat×Oper)
 | _,[]=>[]
 | i,o::r=>(i,o)::oQ (i+1) r
def Nb(E:Env)(o:Oper):Bool:=reads o.op&&(match o.dst with
 | some d => !E.own.contains d
 | none=>true)
def pT(E:Env)(cf:List Nat)(gw:List (Nat×Oper))(r:Nat×Oper):Bool :=
 Nb E r.2&&gw.all λ y=>Nb E y.2 || !Nat.testBit (cf.getD r.1 0) y.1
def a2T(E:Env)(cf:List Nat)(gw:List (Nat×Oper)):Bool :=
 (gw.all λ r=>r.2.guard.isNone&&sw E r.2)&&gw.all λ r => !(pT E cf gw r||nj r.2.op)||iq (dstsOf (gw.filter λ y => !Nat.testBit (cf.getD r.1 0) y.1)++bif nj r.2.op then uI E gw else []) r.2
def ZV(E:Env)(cf:List Nat)(gw:List (Nat×Oper))(K:ah->Prop)(s:ah):Prop :=
 match a2T E cf gw with
 | true=>Lx E (gw.filter (pT E cf gw)) (λ s'=>jL E (gw.filter (pT E cf gw)) s' (kH E cf gw.length (gw.filter (pT E cf gw)) (KN E cf (gw.filter λ r => !pT E cf gw r)) K s')) s
 | false=>False
def xB(E:Env)(ops:Array Oper)(l:List Oper)(cf:List Nat):List Nat->Nat->List (Nat×Bool)->(ah->Prop)->ah->Prop
 | [],lo,_,Q,s=>match Nat.beq lo l.length with
  | true=>Q s
  | false=>False
 | hi::r,lo,kn,Q,s=>match SR cf hi&&(SR cf lo&&(Nat.blt lo hi&&Nat.ble hi l.length)) with
  | true=>match Nat.beq hi (lo+1) with
   | true=>gb E ops ((l.take hi).drop lo) kn (xB E ops l cf r hi kn Q) s
   | false=>match F6 l lo hi,((l.take hi).drop lo).any (Oper.alone E) with
    | true,true=>ZV E cf (oQ lo ((l.take hi).drop lo)) (xB E ops l cf r hi kn Q) s
    | true,false=>pF E l hi cf lo ((l.take hi).drop lo) kn (λ kn s=>xm ((l.take hi).drop lo) s (xB E ops l cf r hi kn Q s)) (((l.take hi).drop lo).foldl ah.fresh s)
    | false,_=>False
  | false=>False
def RW(E:Env)(ops:Array Oper)(Q:ah->Prop)(s:ah):Prop :=
 let l:=ops.toList
 let cf:=b9 l []
 let m:=qG cf 0 0
 match ((l.take m).all λ o=>vL o.dst)&&(distinct ((l.take m).map (·.dst))&&backward l) with
 | true=>pF E l m cf 0 (l.take m) [] (λ kn s=>xm (l.take m) s (gb E ops (l.drop m) kn Q s)) ((l.take m).foldl ah.fresh s)
 | false=>False
def NX(E:Env)(ops:Array Oper)(Q:ah->Prop)(s:ah):Prop :=
 let l:=ops.toList
 let cf:=b9 l []
 match (l.take (qG cf 0 0)).any (Oper.alone E) with
 | false=>RW E ops Q s
 | true=>match backward l with
  | true=>xB E ops l cf (VY cf ((List.range l.length).map (·+1))) 0 [] Q s
  | false=>False
def Xb(E:Env)(ops:Array Oper)(Q:ah->Prop)(s:ah):Prop:=NX E ops Q s
inductive aH:Type 1 where
 | none
 | mk (ι:Type) (P:ι->Prop) (μ:ι->Nat) (fz dead:List Nat) (ins:ι->List (Nat×AV)) (aU:List Nat) (os:ι->List (Nat×aB)) (Vx ren:List (Nat×Nat)) (sub:ι->Nat->aH)
def Code.C0:Code->List Nat
 | .region _ ops _=>ops.toList.filterMap (·.dst)
 | .seq a b=>Code.C0 a++Code.C0 b
 | .cond _ a b=>Code.C0 a++Code.C0 b
 | .block _ c=>Code.C0 c
 | .loop c=>Code.C0 c
 | .scope c=>Code.C0 c
 | _=>[]
def Code.first:Code->Option Nat
 | .region id _ _=>some id
 | .seq a _=>Code.first a
 | .block _ c=>Code.first c
 | .loop c=>Code.first c
 | .cond _ a _=>Code.first a
 | _=>none
def Code.a3S(Λ:Nat->aH)(b:Code):aH:=match Code.first b with
 | some r=>Λ (r+100000)
 | none => .none
def a0z(sl:List AV):List (Nat×AV)->List AV
 | []=>sl
 | (t,v)::r=>a0z (sl.set t v) r
def Ou(aU:List Nat):List (Nat×aB)->List (Nat×aB)
 | []=>[]
 | (k,o)::r=>match aU.contains k with
  | true=>(k,o)::Ou aU r
  | false=>Ou aU r
def tM(s:ah)(C0:List Nat)(ins:List (Nat×AV))(aU:List Nat)(os:List (Nat×aB)):ah :=
 { aC:=a0z (C0.foldl (λ l t=>l.set t .any) s.aC) ins,aK:=os++Ou aU s.aK }
def dC(ρ:List (Nat×Nat))(id:Nat):Nat:=match af ρ id with
 | some k=>k
 | none=>id
def isRow:Option aB->Bool
 | some (.row ..)=>true
 | _=>false
def iy:Option aB->Bool
 | some (.box _)=>true
 | _=>false
def KM:Option aB->Bool
 | some (.map _)=>true
 | _=>false
def AV.wG(ρ:List (Nat×Nat))(s t:ah)(a b:AV):Prop :=
 match b with
 | .any=>True
 | .aW v=>match a with
  | .aW u=>yR u v
  | .nil=>match v with
   | ⟨.slice _,xs⟩=>xs=[]
   | _=>False
  | _=>False
 | .nil=>match a with
  | .nil=>True
  | _=>False
 | .dn v=>match a with
  | .dn u=>yR u v
  | _=>False
 | .ptr id off=>match a with
  | .ptr i o=>match Nat.beq i (dC ρ id)&&Nat.beq o off&&iy (t.af id) with
   | true=>True
   | false=>False
  | _=>False
 | .row id=>match a with
  | .row i=>match Nat.beq i (dC ρ id)&&isRow (t.af id) with
   | true=>True
   | false=>False
  | .nil=>match isRow (t.af id),s.af (dC ρ id) with
   | true,Option.none=>True
   | _,_=>False
  | _=>False
 | .aE id=>match a with
  | .aE i=>match Nat.beq i (dC ρ id)&&dw (t.af id) with
   | true=>True
   | false=>False
  | .nil=>match dw (t.af id),s.af (dC ρ id) with
   | true,Option.none=>True
   | _,_=>False
  | _=>False
 | .fn f=>match a with
  | .fn g=>match Nat.beq f g with
   | true=>True
   | false=>False
  | _=>False
 | .mp id=>match a with
  | .mp i=>match Nat.beq i (dC ρ id)&&KM (t.af id) with
   | true=>True
   | false=>False
  | _=>False
 | _=>False
def I6(ρ:List (Nat×Nat))(s t:ah):List AV->List AV->Prop
 | [],[]=>True
 | a::Z9,b::bs=>match b with
  | .any=>I6 ρ s t Z9 bs
  | b=>AV.wG ρ s t a b/\I6 ρ s t Z9 bs
 | _,_=>False
def AV.a4A(ρ:List (Nat×Nat))(s t:ah)(a b:AV):Prop :=
 match a,b with
 | .agg Z9, .agg bs=>I6 ρ s t Z9 bs
 | a,b=>AV.wG ρ s t a b
def Xr(ρ:List (Nat×Nat))(s t:ah):List AV->List AV->Prop
 | [],[]=>True
 | a::Z9,b::bs=>match b with
  | .any=>Xr ρ s t Z9 bs
  | b=>AV.a4A ρ s t a b/\Xr ρ s t Z9 bs
 | _,_=>False
def Z6(u v:FV):Prop:=match u.Z9 v.ps v.r with
 | some F=>F=v.F
 | none=>False
def AV.fit(ρ:List (Nat×Nat))(s t:ah)(a b:AV):Prop :=
 match a,b with
 | .dq f Z9, .dq g bs=>match Nat.beq f g with
  | true=>Xr ρ s t Z9 bs
  | false=>False
 | .kI u, .kI v=>Z6 u v
 | .agg Z9, .agg bs=>I6 ρ s t Z9 bs
 | .agg Z9, .aW v=>match EV (λ _=>none) v.τ (.agg Z9) with
  | some x=>x=v.x
  | none=>False
 | a,b=>AV.wG ρ s t a b
def B4(ρ:List (Nat×Nat))(s t:ah):List AV->List AV->Prop
 | [],[]=>True
 | a::Z9,b::bs=>match b with
  | .any=>B4 ρ s t Z9 bs
  | b=>AV.fit ρ s t a b/\B4 ρ s t Z9 bs
 | _,_=>False
def toO(x:J):qH:=⟨x.ak,x.aI,some x.M⟩
def WW(bo:Ty)(ys:List bo.den)(τ:Ty)(xs:List τ.den):Prop :=
 match decide (τ = .st .oExpr),decide (bo = .st .expr) with
 | true,true=>yR ⟨.slice (.st .oExpr),((show Option (List J) from TV.Z9 (.slice (.st .expr)) ⟨.slice bo,ys⟩).getD []).map toO⟩ ⟨.slice τ,xs⟩
 | _,_=>yR ⟨.slice bo,ys⟩ ⟨.slice τ,xs⟩
def Zv(a b:MV):Prop:=match a.Z9 b.κ b.ε with
 | some (f,n)=>f=b.f/\n=b.n
 | none=>False
def nA(ρ:List (Nat×Nat))(s t:ah):List (Nat×aB)->Prop
 | []=>True
 | (id, .box bs)::r=>match s.af (dC ρ id) with
  | some (.box Z9)=>I6 ρ s t Z9 bs/\nA ρ s t r
  | _=>False
 | (id, .row e τ xs)::r=>match s.af (dC ρ id) with
  | some (.row e' bo ys)=>match Nat.beq e e' with
   | true=>yR ⟨.slice bo,ys⟩ ⟨.slice τ,xs⟩/\nA ρ s t r
   | false=>False
  | Option.none=>xs=[]/\nA ρ s t r
  | _=>False
 | (id, .aE τ xs)::r=>match s.af (dC ρ id) with
  | some (.aE bo ys)=>WW bo ys τ xs/\nA ρ s t r
  | Option.none=>xs=[]/\nA ρ s t r
  | _=>False
 | (id, .map m)::r=>match s.af (dC ρ id) with
  | some (.map m')=>Zv m' m/\nA ρ s t r
  | _=>False
def Fits(ρ:List (Nat×Nat))(s t:ah):Prop :=
 match (nodupB (t.aK.map (·.1))&&nodupB (t.aK.map λ p=>dC ρ p.1))&&t.aK.all (λ p=>Nat.blt p.1 50||(Nat.ble 100 p.1||(Nat.beq (dC ρ p.1) p.1&&dw (s.af p.1))))&&t.aK.all (λ p=>Nat.blt p.1 400000||(!iy (some p.2)||(Nat.beq (dC ρ p.1) p.1&&iy (s.af p.1)))) with
 | true=>B4 ρ s t s.aC t.aC/\nA ρ s t t.aK
 | false=>False
def a2Z(ρ:List (Nat×Nat))(a b:AV):List (Nat×Nat):=match b with
 | .aE k=>match a with
  | .aE i=>match Nat.beq i (dC ρ k) with
   | true=>[]
   | false=>[(k,i)]
  | _=>[]
 | _=>[]
def ZC(ρ:List (Nat×Nat)):List AV->List AV->List (Nat×Nat)
 | a::Z9,b::bs=>a2Z ρ a b++ZC ρ Z9 bs
 | _,_=>[]
def a5M(ρ:List (Nat×Nat))(a b:AV):List (Nat×Nat):=match b with
 | .agg bs=>match a with
  | .agg Z9=>ZC ρ Z9 bs
  | _=>[]
 | b=>a2Z ρ a b
def Tz(ρ:List (Nat×Nat)):List AV->List AV->List (Nat×Nat)
 | a::Z9,b::bs=>a5M ρ a b++Tz ρ Z9 bs
 | _,_=>[]
def HF(ρ:List (Nat×Nat))(s:ah):List (Nat×aB)->List (Nat×Nat)
 | []=>[]
 | (id, .box bs)::r=>match s.af (dC ρ id) with
  | some (.box Z9)=>ZC ρ Z9 bs++HF ρ s r
  | _=>HF ρ s r
 | _::r=>HF ρ s r
def V7:List (Nat×Nat)->(List (Nat×Nat)->Prop)->Prop
 | [],K=>K []
 | (a,b)::r,K=>V7 r λ r'=>K ((a,b)::r')
theorem L8:∀ {l:List (Nat×Nat)} {K:List (Nat×Nat)->Prop},V7 l K->K l
 | [],_,h=>h
 | (a,b)::r,K,h=>L8 (l:=r) (K:=λ r'=>K ((a,b)::r')) h
def Rz(ρ:List (Nat×Nat))(s t:ah):Prop:=V7 (HF ρ s t.aK++Tz ρ s.aC t.aC) λ r=>Fits (r++ρ) s t
theorem Rz.ex{ρ:List (Nat×Nat)}{s t:ah}(h:Rz ρ s t):∃ r,Fits (r++ρ) s t:=⟨_,L8 h⟩
def ck(E:Env):Code->(Nat->aH)->Nat->(Exit->ah->Prop)->ah->Prop
 | .skip,_,_,Q,s=>Q .normal s
 | .region _ ops draw,_,_,Q,s=>match draw with
  | true=>Xb E ops (Q .normal) s
  | false=>gb E ops ops.toList [] (Q .normal) s
 | .seq a b,Λ,cur,Q,s=>match Code.a3S Λ b with
  | .none=>ck E a Λ cur (λ e s'=>match e with
   | .normal=>ck E b Λ cur Q s'
   | e=>Q e s') s
  | .mk ι P _ fz dead ins aU os Vx _ sub =>
   let C0:=dead++Code.C0 a
   ck E a Λ cur (λ e s'=>match e with
    | .normal=>∃ j:ι,P j/\Rz Vx (fz.foldl ah.freeze s') (tM s C0 (ins j) aU (os j))
    | e=>Q e s') s /\
   ∀ i:ι,P i->ck E b (sub i) cur Q (tM s C0 (ins i) aU (os i))
 | .cond c a b,Λ,cur,Q,s=>match s.eval c with
  | .aW ⟨.bool,t⟩=>(t=true->ck E a Λ cur Q s)/\(t=false->ck E b Λ cur Q s)
  | _=>False
 | .block id c,Λ,_,Q,s=>ck E c Λ id (λ e s'=>match e with
  | .exit i=>match Nat.beq i id with
   | true=>Q .normal s'
   | false=>Q (.exit i) s'
  | e=>Q e s') s
 | .loop c,Λ,cur,Q,s=>match Λ cur with
  | .none=>False
  | .mk ι P μ fz dead ins aU os Vx ren sub =>
   let C0:=dead++Code.C0 c
   (∃ i:ι,P i/\Rz Vx (fz.foldl ah.freeze s) (tM s C0 (ins i) aU (os i))) /\
   ∀ i:ι,P i->ck E c (sub i) cur (λ e s'=>match e with
    | .normal=>∃ j:ι,P j/\μ j<μ i/\Rz ren (fz.foldl ah.freeze s') (tM s C0 (ins j) aU (os j))
    | e=>Q e s') (tM s C0 (ins i) aU (os i))
 | .exit id,_,_,Q,s=>Q (.exit id) s
 | .ret,_,_,Q,s=>Q .ret s
 | .label _,_,_,Q,s=>Q .normal s
 | _,_,_,_,_=>False
def O7(E:Env)(s:ah):List ResultVar->List TypeId->Option (List TV)
 | [],[]=>some []
 | r::rs,T::Ts=>match af E.ty T with
  | some (τ,_)=>match (match r with
    | .tmp t=>EV (MM s.af) τ (s.eval (.tmp t))
    | .cell a t=>match Nat.beq t T with
     | true=>deref (MM s.af) τ (s.eval (.tmp a))
     | false=>none) with
   | some x=>match O7 E s rs Ts with
    | some l=>some (⟨τ,x⟩::l)
    | none=>none
   | none=>none
  | none=>none
 | _,_=>none
def RO:Arg->AV
 | .val v => .aW v
 | .ref v => .dn v
 | .fn f => .fn f
 | .dq v => .kI v
 | .own _ => .any
 | .box _ => .any
def aD(fn:Func)(args:List Arg):ah :=
 { aC:=args.map RO++List.replicate (fn.ntmps - args.length) .any,aK:=[] }
def uD:Nat->List Arg->ah->ah
 | _,[],s=>s
 | p, .own v::r,s=>uD (p+1) r { aC:=s.aC.set p (lv (1000000+100 * p) v),aK:=cd (1000000+100 * p) v.cells++s.aK }
 | p,_::r,s=>uD (p+1) r s
def jN(fn:Func)(args:List Arg):ah:=uD 0 args (aD fn args)
def bg(E:Env)(fn:Func)(post:List TV->Prop)(e:Exit)(s:ah):Prop :=
 match e with
 | .ret | .normal=>match O7 E s fn.results.toList fn.resultTypes.toList with
  | some vs=>post vs
  | none=>False
 | _=>False
def bp:List TV->List TV->Prop
 | [],[]=>True
 | [v],[u]=>yR v u
 | v::vs,u::us=>yR v u/\bp vs us
 | _,_=>False
end
end Go.Proofs.YtmjfpcajohhbeaaGreatDoor

namespace Go.Proofs.YtmjfpcajohhbeaaGreatDoor
def ct(w:World)(b o:Nat)(cs:List Value):Prop:=∀ j v,cs[j]?=some v->w.cell? ⟨b,o+j,none⟩=some v
def D.size:D->Nat
 | .agg ds=>ds.length
 | _=>1
mutual
def Rd(w:World)(S:Nat->Prop):D->List Value->Prop
 | .int k n,cs=>cs=[.int k n]/\k.min<=n/\n<=k.max
 | .bool b,cs=>cs=[.bool b]
 | .str s,cs=>∃ x:ByteArray,cs=[.string x]/\x.data.toList=s/\x.size<=140737488355328
 | .slice _ xs,cs=>∃ a cap,cs=[.slice a xs.length cap]/\xs.length<=cap/\cap<=maxLen/\xs.length<=140737488355328/\(xs=[]\/∃ b o,a=some ⟨b,o,none⟩/\S b/\dL w S xs b o)
 | .agg ds,cs=>dB w S ds cs
 | .hole,cs=>∃ a n m,cs=[.slice a n m]
 | .ptr,cs=>∃ p,cs=[.pointer p]
def dB(w:World)(S:Nat->Prop):List D->List Value->Prop
 | [],cs=>cs=[]
 | d::ds,cs=>∃ v r,cs=v::r/\Rd w S d [v]/\dB w S ds r
def dL(w:World)(S:Nat->Prop):List D->Nat->Nat->Prop
 | [],_,_=>True
 | d::ds,b,o=>(∃ cs,cs.length=d.size/\Rd w S d cs/\ct w b o cs)/\dL w S ds b (o+d.size)
end
theorem ct.aU{w w':World}{b o:Nat}{cs:List Value}(h:ct w b o cs)(hb:w'.heap[b]?=w.heap[b]?):ct w' b o cs :=
 λ j v hj=>by rw[<-h j v hj];exact b1a (a:=⟨b,o+j,none⟩) hb
mutual
theorem Rd.aU{w w':World}{S S':Nat->Prop}(hS:∀ b,S b->S' b)(hw:∀ b,S b->w'.heap[b]?=w.heap[b]?):∀ (d:D) {cs:List Value},Rd w S d cs->Rd w' S' d cs
 | .int _ _,_,h=>h
 | .bool _,_,h=>h
 | .str _,_,h=>h
 | .slice _ xs,_,h=>by
  obtain⟨a,cap,h1,h2,h3,h4,h5⟩:=h
  refine⟨a,cap,h1,h2,h3,h4,h5.imp id ?_⟩
  rintro⟨b,o,ha,hb,hr⟩
  exact⟨b,o,ha,hS b hb,dL.aU hS hw xs b o hb hr⟩
 | .agg ds,_,h=>dB.aU hS hw ds h
 | .hole,_,h=>h
 | .ptr,_,h=>h
theorem dB.aU{w w':World}{S S':Nat->Prop}(hS:∀ b,S b->S' b)(hw:∀ b,S b->w'.heap[b]?=w.heap[b]?):∀ (ds:List D) {cs:List Value},dB w S ds cs->dB w' S' ds cs
 | [],_,h=>h
 | d::ds,_,h=>by
  obtain⟨v,r,h1,h2,h3⟩:=h
  exact⟨v,r,h1,Rd.aU hS hw d h2,dB.aU hS hw ds h3⟩
theorem dL.aU{w w':World}{S S':Nat->Prop}(hS:∀ b,S b->S' b)(hw:∀ b,S b->w'.heap[b]?=w.heap[b]?):∀ (ds:List D) (b o:Nat),S b->dL w S ds b o->dL w' S' ds b o
 | [],_,_,_,_=>trivial
 | d::ds,b,o,hb,h=>by
  obtain⟨⟨cs,h1,h2,h3⟩,h4⟩:=h
  exact⟨⟨cs,h1,Rd.aU hS hw d h2,h3.aU (hw b hb)⟩,dL.aU hS hw ds b _ hb h4⟩
end
theorem dB.length{w:World}{S:Nat->Prop}:∀ (ds:List D) {cs:List Value},dB w S ds cs->cs.length=ds.length
 | [],_,h=>by rw[show _=[] from h];rfl
 | d::ds,_,h=>by
  obtain⟨v,r,rfl,_,h3⟩:=h
  simp[dB.length ds h3]
theorem Rd.length{w:World}{S:Nat->Prop}(d:D){cs:List Value}(h:Rd w S d cs):cs.length=d.size:=by
 cases d with
 | int k n=>rw[h.1];rfl
 | bool b=>rw[show cs=_ from h];rfl
 | str s=>obtain⟨x,h,_⟩:=h;rw[h];rfl
 | slice n xs=>obtain⟨a,cap,h,_⟩:=h;rw[h];rfl
 | agg ds=>exact dB.length ds h
 | hole=>obtain⟨a,n,m,h⟩:=h;rw[h];rfl
 | ptr=>obtain⟨p,h⟩:=h;rw[h];rfl
theorem Ty.cT(t:Ty)(x:t.den):(t.aR x).size=t.size:=by
 cases t with
 | st s=>simp[Ty.aR,aS.cF,D.size,Ty.size,aS.kY]
 | mv t=>cases (show Option (List t.den) from x)<;>rfl
 | _=>rfl
theorem dL.at_{w:World}{S:Nat->Prop}{n:Nat}:∀ (ds:List D) (b o:Nat),dL w S ds b o->(∀ d∈ds,d.size=n)->∀ i d,ds[i]?=some d ->
  ∃ cs,cs.length=n/\Rd w S d cs/\ct w b (o+i * n) cs
 | [],_,_,_,_,i,d,h=>by simp at h
 | e::ds,b,o,h,hn,0,d,hi=>by
  obtain⟨⟨cs,h1,h2,h3⟩,_⟩:=h
  simp at hi
  subst hi
  exact⟨cs,by rw[h1];exact hn _ (by simp),h2,by simpa using h3⟩
 | e::ds,b,o,h,hn,i+1,d,hi=>by
  obtain⟨_,h4⟩:=h
  rw[hn e (by simp)] at h4
  obtain⟨cs,h1,h2,h3⟩:=dL.at_ ds b (o+n) h4 (λ d hd=>hn d (by simp[hd])) i d (by simpa using hi)
  exact⟨cs,h1,h2,by rw[show o+(i+1) * n=o+n+i * n by rw[a9C];omega];exact h3⟩
theorem dL.a2h{w:World}{S:Nat->Prop}{n:Nat}:∀ (k:Nat) (ds:List D) (b o:Nat),dL w S ds b o->(∀ d∈ds,d.size=n)->dL w S (ds.drop k) b (o+k * n)
 | 0,ds,b,o,h,_=>by simpa using h
 | k+1,[],b,o,h,_=>by simp[dL]
 | k+1,d::ds,b,o,h,hn=>by
  have:=dL.a2h k ds b (o+n) (by have:=h.2;rwa [hn d (by simp)] at this) (λ d hd=>hn d (by simp[hd]))
  rw[show o+(k+1) * n=o+n+k * n by rw[a9C];omega]
  exact this
theorem dL.a3n{w:World}{S:Nat->Prop}:∀ (k:Nat) (ds:List D) (b o:Nat),dL w S ds b o->dL w S (ds.take k) b o
 | 0,ds,b,o,h=>by simp[dL]
 | k+1,[],b,o,h=>by simp[dL]
 | k+1,d::ds,b,o,h=>⟨h.1,dL.a3n k ds b _ h.2⟩
def fw(w:World)(S:Nat->Prop):List D->List Value->Prop
 | [],l=>l=[]
 | d::ds,l=>∃ c r,l=c++r/\Rd w S d c/\fw w S ds r
theorem fw.aU{w w':World}{S S':Nat->Prop}(hS:∀ b,S b->S' b)(hw:∀ b,S b->w'.heap[b]?=w.heap[b]?):∀ (ds:List D) {l:List Value},fw w S ds l->fw w' S' ds l
 | [],_,h=>h
 | d::ds,_,h=>by
  obtain⟨c,r,h1,h2,h3⟩:=h
  exact⟨c,r,h1,Rd.aU hS hw d h2,fw.aU hS hw ds h3⟩
theorem fw.append{w:World}{S:Nat->Prop}:∀ (ds es:List D) {l m:List Value},fw w S ds l->fw w S es m->fw w S (ds++es) (l++m)
 | [],_,_,_,h,k=>by rw[show _=[] from h];simpa using k
 | d::ds,es,_,m,h,k=>by
  obtain⟨c,r,rfl,h2,h3⟩:=h
  exact⟨c,r++m,by simp,h2,fw.append ds es h3 k⟩
theorem fw.length{w:World}{S:Nat->Prop}{n:Nat}:∀ (ds:List D) {l:List Value},fw w S ds l->(∀ d∈ds,d.size=n)->l.length=ds.length * n
 | [],_,h,_=>by rw[show _=[] from h];simp
 | d::ds,_,h,hn=>by
  obtain⟨c,r,rfl,h2,h3⟩:=h
  rw[a8K,Rd.length d h2,hn d (by simp),fw.length ds h3 (λ d hd=>hn d (by simp[hd])),a8C,a9C]
  omega
theorem fw.row{w:World}{S:Nat->Prop}:∀ (ds:List D) {l:List Value} (b o:Nat),fw w S ds l->ct w b o l->dL w S ds b o
 | [],_,_,_,_,_=>trivial
 | d::ds,_,b,o,h,hc=>by
  obtain⟨c,r,rfl,h2,h3⟩:=h
  refine⟨⟨c,Rd.length d h2,h2,λ j v hj=>hc j v ?_⟩,fw.row ds b _ h3 λ j v hj=>?_⟩
  .rw[b0s]
   .exact hj
   .exact (a9g.1 hj).1
  .have:=hc (c.length+j) v (by rw[List.getElem?_append_right (by omega)];simpa using hj)
   rwa [Rd.length d h2,<-b1j] at this
theorem dL.cells{w:World}{S:Nat->Prop}:∀ (ds:List D) (b o:Nat),dL w S ds b o->∃ l,fw w S ds l/\ct w b o l
 | [],_,_,_=>⟨[],rfl,λ j v h=>by simp at h⟩
 | d::ds,b,o,h=>by
  obtain⟨⟨c,h1,h2,h3⟩,h4⟩:=h
  obtain⟨r,h5,h6⟩:=dL.cells ds b _ h4
  refine⟨c++r,⟨c,r,rfl,h2,h5⟩,λ j v hj=>?_⟩
  rcases a9t j c.length with bS|Wk
  .exact h3 j v (by rwa [b0s bS] at hj)
  .rw[b0e Wk] at hj
   have:=h6 (j - c.length) v hj
   rwa [<-h1,show o+c.length+(j - c.length)=o+j by omega] at this
theorem fw.at_{w:World}{S:Nat->Prop}{n:Nat}:∀ (ds:List D) {l:List Value},fw w S ds l->(∀ d∈ds,d.size=n)->∀ i d,ds[i]?=some d->Rd w S d ((l.drop (i * n)).take n)
 | [],_,_,_,i,d,h=>by simp at h
 | e::ds,_,h,hn,0,d,hi=>by
  obtain⟨c,r,rfl,h2,h3⟩:=h
  simp at hi
  subst hi
  have:c.length=n:=by rw[Rd.length _ h2];exact hn _ (by simp)
  simpa [<-this] using h2
 | e::ds,_,h,hn,i+1,d,hi=>by
  obtain⟨c,r,rfl,h2,h3⟩:=h
  have hc:c.length=n:=by rw[Rd.length _ h2];exact hn _ (by simp)
  have:=fw.at_ ds h3 (λ d hd=>hn d (by simp[hd])) i d (by simpa using hi)
  have h0:List.drop (n+i * n) c=[]:=b0F (by omega)
  rw[show (i+1) * n=n+i * n by rw[a9C];omega,List.drop_append,h0,a8T,show n+i * n - c.length=i * n by omega]
  exact this
def vT:Value->Bool
 | .int .. | .bool _ | .string _ | .slice .. | .pointer _=>true
 | _=>false
def D.leaf:D->Bool
 | .agg _=>false
 | _=>true
theorem Rd.vT{w:World}{S:Nat->Prop}{d:D}(hd:d.leaf=true){cs:List Value}(h:Rd w S d cs):∃ v,cs=[v]/\YtmjfpcajohhbeaaGreatDoor.vT v=true:=by
 cases d with
 | int k n=>exact⟨_,h.1,rfl⟩
 | bool b=>exact⟨_,h,rfl⟩
 | str s=>obtain⟨x,h,_⟩:=h;exact⟨_,h,rfl⟩
 | slice n xs=>obtain⟨a,cap,h,_⟩:=h;exact⟨_,h,rfl⟩
 | agg ds=>cases hd
 | hole=>obtain⟨a,n,m,h⟩:=h;exact⟨_,h,rfl⟩
 | ptr=>obtain⟨p,h⟩:=h;exact⟨_,h,rfl⟩
theorem Ap{v:Value}(h:YtmjfpcajohhbeaaGreatDoor.vT v=true):v.oneCell'=true:=by cases v<;>first|rfl|cases h
theorem MH{v:Value}(h:YtmjfpcajohhbeaaGreatDoor.vT v=true):v.cells = #[v]:=by cases v<;>first|rfl|cases h
theorem Oy{α:Type}(n:Nat)(f:α->D)(o:Option (List α)):(mvD n f o).leaf=true:=by cases o<;>rfl
theorem aS.r5(s:aS)(x:s.den):∀ v∈s.cells x,v.aR.leaf=true:=by
 cases s<;>simp[aS.cells,TV.aR,Ty.aR,D.leaf]<;>exact Oy _ _ _
end Go.Proofs.YtmjfpcajohhbeaaGreatDoor

namespace Go.Proofs.YtmjfpcajohhbeaaGreatDoor
mutual
def Ow(w:World):D->List Value->List Nat->Prop
 | .int k n,cs,fp=>(cs=[.int k n]/\k.min<=n/\n<=k.max)/\fp=[]
 | .bool b,cs,fp=>cs=[.bool b]/\fp=[]
 | .str s,cs,fp=>(∃ x:ByteArray,cs=[.string x]/\x.data.toList=s/\x.size<=140737488355328)/\fp=[]
 | .slice n xs,cs,fp=>∃ a cap,cs=[.slice a xs.length cap]/\xs.length<=cap/\cap<=maxLen/\xs.length<=140737488355328 /\
   ((xs=[]/\(a=none/\cap=0)/\fp=[])\/∃ b f l t,a=some ⟨b,0,none⟩/\fp=b::f/\w.heap[b]?=some (.cells l.toArray t (0,0))/\l.length=cap * n/\bX w xs l f)
 | .agg ds,cs,fp=>di w ds cs fp
 | .hole,cs,fp=>(∃ a n m,cs=[.slice a n m])/\fp=[]
 | .ptr,cs,fp=>(∃ p,cs=[.pointer p])/\fp=[]
def di(w:World):List D->List Value->List Nat->Prop
 | [],cs,fp=>cs=[]/\fp=[]
 | d::ds,cs,fp=>∃ v r f1 f2,cs=v::r/\fp=f1++f2/\Ow w d [v] f1/\di w ds r f2
def bX(w:World):List D->List Value->List Nat->Prop
 | [],_,fp=>fp=[]
 | d::ds,l,fp=>∃ c r f1 f2,l=c++r/\fp=f1++f2/\Ow w d c f1/\bX w ds r f2
end
theorem di.length{w:World}:∀ (ds:List D) {cs:List Value} {fp:List Nat},di w ds cs fp->cs.length=ds.length
 | [],_,_,h=>by rw[h.1];rfl
 | d::ds,_,_,h=>by
  obtain⟨v,r,f1,f2,rfl,_,_,h4⟩:=h
  simp[di.length ds h4]
theorem Ow.length{w:World}(d:D){cs:List Value}{fp:List Nat}(h:Ow w d cs fp):cs.length=d.size:=by
 cases d with
 | int k n=>rw[h.1.1];rfl
 | bool b=>rw[h.1];rfl
 | str s=>obtain⟨⟨x,h,_⟩,_⟩:=h;rw[h];rfl
 | slice n xs=>obtain⟨a,cap,h,_⟩:=h;rw[h];rfl
 | agg ds=>exact di.length ds h
 | hole=>obtain⟨⟨a,n,m,h⟩,_⟩:=h;rw[h];rfl
 | ptr=>obtain⟨⟨p,h⟩,_⟩:=h;rw[h];rfl
theorem FP{w:World}{b:Nat}{p c r:List Value}{t:TypeId}(h:w.heap[b]?=some (.cells (p++(c++r)).toArray t (0,0))):ct w b p.length c:=by
 intro j v hj
 have hl:j<c.length:=(a9g.1 hj).1
 have h2:(p++(c++r))[p.length+j]?=some v:=by
  rw[b0e (by omega),b0y,b0s hl];exact hj
 simp[World.cell?,h,h2]
mutual
theorem Ow.rd{w:World}{S:Nat->Prop}:∀ (d:D) {cs:List Value} {fp:List Nat},Ow w d cs fp->(∀ b∈fp,S b)->Rd w S d cs
 | .int _ _,_,_,h,_=>h.1
 | .bool _,_,_,h,_=>h.1
 | .str _,_,_,h,_=>h.1
 | .slice n xs,_,_,h,hS=>by
  obtain⟨a,cap,h1,h2,h3,h4,h5⟩:=h
  refine⟨a,cap,h1,h2,h3,h4,h5.imp And.left ?_⟩
  rintro⟨b,f,l,t,rfl,rfl,hb,_,hr⟩
  exact⟨b,0,rfl,hS b (by simp),bX.rd xs (p:=[]) (by simpa using hb) hr (λ b hb=>hS b (by simp[hb]))⟩
 | .agg ds,_,_,h,hS=>di.rd ds h hS
 | .hole,_,_,h,_=>h.1
 | .ptr,_,_,h,_=>h.1
theorem di.rd{w:World}{S:Nat->Prop}:∀ (ds:List D) {cs:List Value} {fp:List Nat},di w ds cs fp->(∀ b∈fp,S b)->dB w S ds cs
 | [],_,_,h,_=>h.1
 | d::ds,_,_,h,hS=>by
  obtain⟨v,r,f1,f2,h1,rfl,h3,h4⟩:=h
  exact⟨v,r,h1,Ow.rd d h3 λ b hb=>hS b (by simp[hb]),di.rd ds h4 λ b hb=>hS b (by simp[hb])⟩
theorem bX.rd{w:World}{S:Nat->Prop}{b:Nat}{t:TypeId}:∀ (ds:List D) {p l:List Value} {fp:List Nat},w.heap[b]?=some (.cells (p++l).toArray t (0,0))->bX w ds l fp->(∀ b∈fp,S b)->dL w S ds b p.length
 | [],_,_,_,_,_,_=>trivial
 | d::ds,p,_,_,hb,h,hS=>by
  obtain⟨c,r,f1,f2,rfl,rfl,h3,h4⟩:=h
  have hl:=Ow.length d h3
  refine⟨⟨c,hl,Ow.rd d h3 λ b hb=>hS b (by simp[hb]),FP hb⟩,?_⟩
  have:=bX.rd ds (p:=p++c) (l:=r) (by simpa using hb) h4 (λ b hb=>hS b (by simp[hb]))
  rw[<-hl]
  simpa using this
end
mutual
theorem Ow.aU{w w':World}:∀ (d:D) {cs:List Value} {fp:List Nat},Ow w d cs fp->(∀ b∈fp,w'.heap[b]?=w.heap[b]?)->Ow w' d cs fp
 | .int _ _,_,_,h,_=>h
 | .bool _,_,_,h,_=>h
 | .str _,_,_,h,_=>h
 | .slice n xs,_,_,h,hw=>by
  obtain⟨a,cap,h1,h2,h3,h4,h5⟩:=h
  refine⟨a,cap,h1,h2,h3,h4,h5.imp id ?_⟩
  rintro⟨b,f,l,t,rfl,rfl,hb,hc,hr⟩
  exact⟨b,f,l,t,rfl,rfl,by rw[hw b (by simp)];exact hb,hc,bX.aU xs hr λ b hb=>hw b (by simp[hb])⟩
 | .agg ds,_,_,h,hw=>di.aU ds h hw
 | .hole,_,_,h,_=>h
 | .ptr,_,_,h,_=>h
theorem di.aU{w w':World}:∀ (ds:List D) {cs:List Value} {fp:List Nat},di w ds cs fp->(∀ b∈fp,w'.heap[b]?=w.heap[b]?)->di w' ds cs fp
 | [],_,_,h,_=>h
 | d::ds,_,_,h,hw=>by
  obtain⟨v,r,f1,f2,h1,rfl,h3,h4⟩:=h
  exact⟨v,r,f1,f2,h1,rfl,Ow.aU d h3 λ b hb=>hw b (by simp[hb]),di.aU ds h4 λ b hb=>hw b (by simp[hb])⟩
theorem bX.aU{w w':World}:∀ (ds:List D) {l:List Value} {fp:List Nat},bX w ds l fp->(∀ b∈fp,w'.heap[b]?=w.heap[b]?)->bX w' ds l fp
 | [],_,_,h,_=>h
 | d::ds,_,_,h,hw=>by
  obtain⟨c,r,f1,f2,h1,rfl,h3,h4⟩:=h
  exact⟨c,r,f1,f2,h1,rfl,Ow.aU d h3 λ b hb=>hw b (by simp[hb]),bX.aU ds h4 λ b hb=>hw b (by simp[hb])⟩
end
mutual
def D.light:D->Bool
 | .slice .. => false
 | .agg ds=>D.HB ds
 | _=>true
def D.HB:List D->Bool
 | []=>true
 | d::ds=>d.light&&D.HB ds
end
mutual
theorem Ow.fU{w:World}{S:Nat->Prop}:∀ (d:D) {cs:List Value},d.light=true->Rd w S d cs->Ow w d cs []
 | .int _ _,_,_,h=>⟨h,rfl⟩
 | .bool _,_,_,h=>⟨h,rfl⟩
 | .str _,_,_,h=>⟨h,rfl⟩
 | .slice n xs,_,hl,h=>by
  obtain⟨a,cap,h1,h2,h3,h4,h5⟩:=h
  cases hl
 | .agg ds,_,hl,h=>di.fU ds hl h
 | .hole,_,_,h=>⟨h,rfl⟩
 | .ptr,_,_,h=>⟨h,rfl⟩
theorem di.fU{w:World}{S:Nat->Prop}:∀ (ds:List D) {cs:List Value},D.HB ds=true->dB w S ds cs->di w ds cs []
 | [],_,_,h=>⟨h,rfl⟩
 | d::ds,_,hl,h=>by
  obtain⟨v,r,h1,h2,h3⟩:=h
  simp only[D.HB,a8r] at hl
  exact⟨v,r,[],[],h1,rfl,Ow.fU d hl.1 h2,di.fU ds hl.2 h3⟩
end
theorem bX.fU{w:World}{S:Nat->Prop}:∀ (ds:List D) {l m:List Value},(∀ d∈ds,d.light=true)->fw w S ds l->bX w ds (l++m) []
 | [],_,_,_,_=>rfl
 | d::ds,_,m,hl,h=>by
  obtain⟨c,r,rfl,h2,h3⟩:=h
  exact⟨c,r++m,[],[],by simp,rfl,Ow.fU d (hl d (by simp)) h2,bX.fU ds (λ d hd=>hl d (by simp[hd])) h3⟩
theorem I3{α:Type}(c r:List α)(k:Nat):(c++r).drop (c.length+k)=r.drop k:=by
 rw[<-a9Y,b0B]
theorem Bl{α:Type}(c r:List α)(k:Nat):(c++r).take (c.length+k)=c++r.take k:=by
 rw[b1U,a9d (by omega),b0y]
theorem bX.split{w:World}{n:Nat}:∀ (ds:List D) {l:List Value} {fp:List Nat} (i:Nat) (d:D),bX w ds l fp->(∀ d∈ds,d.size=n)->ds[i]?=some d ->
  ∃ f0 f1 f2,fp=f0++f1++f2/\i * n+n<=l.length/\Ow w d ((l.drop (i * n)).take n) f1 /\
   ∀ (w':World) (d':D) (c':List Value) (lE:List Nat),(∀ b∈f0++f2,w'.heap[b]?=w.heap[b]?)->c'.length=n->Ow w' d' c' lE->bX w' (ds.set i d') (l.take (i * n)++c'++l.drop (i * n+n)) (f0++lE++f2)
 | [],_,_,_,_,_,_,h=>by simp at h
 | e::ds,l,fp,0,d,h,hn,hi=>by
  obtain⟨c,r,f1,f2,rfl,rfl,h3,h4⟩:=h
  simp at hi
  subst hi
  have hc:c.length=n:=by rw[Ow.length _ h3];exact hn _ (by simp)
  refine⟨[],f1,f2,by simp,by simp;omega,?_,λ w' d' c' lE hw QE E8=>?_⟩
  .simp only[b1z,b0C];rw[<-hc,b0D];exact h3
  .simp only[b1z,a9D,a8T,a9Z,b2u]
   rw[<-hc,b0B]
   exact⟨c',r,lE,f2,rfl,rfl,E8,bX.aU ds h4 λ b hb=>hw b (by simp[hb])⟩
 | e::ds,l,fp,i+1,d,h,hn,hi=>by
  obtain⟨c,r,g1,g2,rfl,rfl,h3,h4⟩:=h
  have hc:c.length=n:=by rw[Ow.length _ h3];exact hn _ (by simp)
  obtain⟨f0,f1,f2,rfl,hlen,k1,k2⟩:=bX.split ds i d h4 (λ d hd=>hn d (by simp[hd])) (by simpa using hi)
  have e1:(i+1) * n=c.length+i * n:=by rw[hc,a9C];omega
  have e2:(i+1) * n+n=c.length+(i * n+n):=by omega
  refine⟨g1++f0,f1,f2,by simp,by simp;omega,?_,λ w' d' c' lE hw QE E8=>?_⟩
  .rw[e1,I3];exact k1
  .rw[e1,show c.length+i * n+n=c.length+(i * n+n) by omega,Bl,I3]
   have:=k2 w' d' c' lE (λ b hb=>hw b (by simp at hb ⊢;rcases hb with hb|hb<;>simp[hb])) QE E8
   rw[show (e::ds).set (i+1) d'=e::ds.set i d' from rfl]
   exact⟨c,r.take (i * n)++c'++r.drop (i * n+n),g1,f0++lE++f2,by simp,by simp,Ow.aU e h3 λ b hb=>hw b (by simp[hb]),this⟩
end Go.Proofs.YtmjfpcajohhbeaaGreatDoor

namespace Go.Proofs.YtmjfpcajohhbeaaGreatDoor
open Go.MapKept
def wS(τ:Ty)(x:τ.den)(v:Value):Prop:=∀ (w:World) (S:Nat->Prop),Rd w S (τ.aR x) [v]
theorem wS.of{τ:Ty}(l8:τ.key=true){x:τ.den}{v:Value}{w:World}{S:Nat->Prop}(h:Rd w S (τ.aR x) [v]):wS τ x v:=by
 intro w' S'
 cases τ with
 | int k=>exact h
 | bool=>exact h
 | str=>exact h
 | _=>cases l8
theorem wS.val{τ:Ty}(l8:τ.key=true){x y:τ.den}{v:Value}(h:wS τ x v)(k:wS τ y v)(w:World):x=y:=by
 have h:=h w (λ _=>False)
 have k:=k w (λ _=>False)
 cases τ with
 | int q =>
  simp only[Ty.aR,Rd,a8z,a8F] at h k
  obtain⟨rfl,_⟩:=h
  exact (by simpa using k.1)
 | bool =>
  simp only[Ty.aR,Rd,a8z,a8F] at h k
  subst h
  simpa using k
 | str =>
  obtain⟨a,h1,h2,_⟩:=h
  obtain⟨b,k1,k2,_⟩:=k
  simp only[a8z,a8F] at h1 k1
  subst h1
  simp only[Value.string.injEq] at k1
  subst k1
  exact h2.symm.trans k2
 | _=>cases l8
theorem wS.inj{τ:Ty}(l8:τ.key=true){x:τ.den}{v u:Value}(h:wS τ x v)(k:wS τ x u)(w:World):v=u:=by
 have h:=h w (λ _=>False)
 have k:=k w (λ _=>False)
 cases τ with
 | int q =>
  simp only[Ty.aR,Rd,a8z,a8F] at h k
  exact h.1.trans k.1.symm
 | bool =>
  simp only[Ty.aR,Rd,a8z,a8F] at h k
  exact h.trans k.symm
 | str =>
  obtain⟨⟨⟨a⟩⟩,h1,h2,_⟩:=h
  obtain⟨⟨⟨b⟩⟩,k1,k2,_⟩:=k
  simp only[a8z,a8F] at h1 k1
  simp only at h2 k2
  rw[h1,k1,h2,k2]
 | _=>cases l8
def descOf:Ty->TypeDesc
 | .int k => .int k
 | .str => .string
 | _ => .bool
theorem wS.isKey{τ:Ty}(l8:τ.key=true){x:τ.den}{v:Value}(h:wS τ x v)(w:World):IsKey (descOf τ) v:=by
 have h:=h w (λ _=>False)
 cases τ with
 | int q =>
  simp only[Ty.aR,Rd,a8z,a8F] at h
  obtain⟨rfl,_⟩:=h
  rfl
 | bool =>
  simp only[Ty.aR,Rd,a8z,a8F] at h
  subst h
  trivial
 | str =>
  obtain⟨a,h1,h2,_⟩:=h
  simp only[a8z,a8F] at h1
  subst h1
  trivial
 | _=>cases l8
structure Ll(m:MV)(es:Array MapEntry):Prop where
 sk:m.κ.key=true
 se:m.ε.key=true
 len:es.size=m.n
 small:m.n<=1000000000
 nd:es.toList.Pairwise λ x y=>x.key≠y.key
 ent:∀ e∈es.toList,∃ k v,wS m.κ k e.key/\wS m.ε v e.val/\m.f k=some v
 all:∀ k v,m.f k=some v->∃ e∈es.toList,wS m.κ k e.key
section
variable {P:Program} {w:World} {m:MV} {es:Array MapEntry} {clock b:Nat} {T kT eT:TypeId}
theorem Ll.found(h:Ll m es){k:m.κ.den}{v:Value}(hv:wS m.κ k v)(w:World) :
  (Instr.findNow (descOf m.κ) v es.toList 0=some none/\(∀ e∈es.toList,e.key≠v)/\m.f k=none) \/
  ∃ j e x,Instr.findNow (descOf m.κ) v es.toList 0=some (some (j,e.val))/\es.toList[j]?=some e/\e.key=v/\m.f k=some x/\wS m.ε x e.val:=by
 have hk:∀ e∈es.toList,IsKey (descOf m.κ) e.key:=λ e he=>by
  obtain⟨k',v',h1,_⟩:=h.ent e he
  exact h1.isKey h.sk w
 rcases findNow_spec (hv.isKey h.sk w) es.toList 0 hk with ⟨h1,h2⟩|⟨j,e,h1,h2,h3⟩
 .refine .inl ⟨h1,h2,?_⟩
  cases hf:m.f k with
  | none=>rfl
  | some x =>
   obtain⟨e,he,XH⟩:=h.all k x hf
   exact absurd (XH.inj h.sk hv w) (h2 e he)
 .obtain⟨k',x,k1,k2,k3⟩:=h.ent e (a9Q h2)
  have:k'=k:=k1.val h.sk (h3 ▸ hv) w
  subst this
  exact .inr ⟨j,e,x,by simpa using h1,h2,h3,k3,k2⟩
theorem Ll.af(h:Ll m es)(hT:P.underlying T=some (.map kT eT))(hk:P.underlying kT=some (descOf m.κ))(hb:w.heap[b]?=some (.map es clock)){z:Value}(hz:(zeroValue eT).run P w = .ok z w)(hzr:wS m.ε m.ε.zero z)
  {k:m.κ.den} {v:Value} (hv:wS m.κ k v) (c:Bool):∃ u,wS m.ε ((m.f k).getD m.ε.zero) u/\(Instr.lookup T (.map (some b)) v c).run P w = .ok (if c then .tuple #[u, .bool (m.f k).isSome] else u) w:=by
 rcases h.found hv w with ⟨h1,h2,h3⟩|⟨j,e,x,h1,h2,h3,h4,h5⟩
 .refine⟨z,by rw[h3];exact hzr,?_⟩
  rw[h3]
  simp[Instr.lookup,a9s hT,b0T hb,run_checkKey hk (hv.isKey h.sk w),run_findKey hk h1,hz,Result.andThen]
 .refine⟨e.val,by rw[h4];exact h5,?_⟩
  rw[h4]
  simp[Instr.lookup,a9s hT,b0T hb,run_checkKey hk (hv.isKey h.sk w),run_findKey hk h1,Result.andThen]
theorem S9{α β:Type}(f:α->Option β)(k:α)(v:β):Jr f k v k=some v:=by simp[Jr]
theorem Aw{α β:Type}(f:α->Option β)(k:α)(v:β){x:α}(h:x≠k):Jr f k v x=f x:=by simp[Jr,h]
theorem Jt{α:Type}{R:α->α->Prop}{a b:α}:∀ {l:List α} {j:Nat},l.Pairwise R->l[j]?=some a->(∀ x,R a x->R b x)->(∀ x,R x a->R x b)->(l.set j b).Pairwise R
 | [],j,h,hj,h1,h2=>by simp at hj
 | y::ys,0,h,hj,h1,h2=>by
  simp only[b1u,a8o] at hj
  subst hj
  obtain⟨k1,k2⟩:=b1p.1 h
  exact b1p.2 ⟨λ x hx=>h1 x (k1 x hx),k2⟩
 | y::ys,j+1,h,hj,h1,h2=>by
  obtain⟨k1,k2⟩:=b1p.1 h
  simp only[List.getElem?_cons_succ] at hj
  refine b1p.2 ⟨λ x hx=>?_,Jt k2 hj h1 h2⟩
  rcases List.mem_or_eq_of_mem_set hx with hx|rfl
  .exact k1 x hx
  .exact h2 y (k1 a (a9Q hj))
theorem Ll.store(h:Ll m es)(hT:P.underlying T=some (.map kT eT))(hk:P.underlying kT=some (descOf m.κ))(hb:w.heap[b]?=some (.map es clock))
  {k:m.κ.den} {v:Value} (hv:wS m.κ k v) {x:m.ε.den} {u:Value} (hu:wS m.ε x u) (hn:m.n<1000000000) :
  ∃ es' Ri,(Instr.mapUpdate T (.map (some b)) v u).run P w = .ok () { w with heap:=w.heap.setIfInBounds b (.map es' Ri) }/\Ll ⟨m.κ,m.ε,Jr m.f k x,Qh (m.f k) m.n⟩ es':=by
 have hK:=hv.isKey h.sk w
 rcases h.found hv w with ⟨h1,h2,h3⟩|⟨j,e,y,h1,h2,h3,h4,h5⟩
 .refine⟨es.push ⟨v,u,clock⟩,clock+1,?_,?_⟩
  .simp[Instr.mapUpdate,a9s hT,b0T hb,run_checkKey hk hK,run_findKey hk h1,run_setObj_map _ hb,Result.andThen]
  .refine⟨h.sk,h.se,?_,by simp[Qh,h3];omega,?_,?_,?_⟩
   .simp[Qh,h3,h.len]
   .simp only[b1L]
    refine List.pairwise_append.2 ⟨h.nd,by simp,λ a ha b' cD=>?_⟩
    simp only[a9q] at cD
    subst cD
    exact h2 a ha
   .intro e he
    simp only[b1L,a8t,a9q] at he
    rcases he with he|rfl
    .obtain⟨k',v',k1,k2,k3⟩:=h.ent e he
     refine⟨k',v',k1,k2,?_⟩
     show Jr m.f k x k'=some v'
     rw[Aw _ _ _ (λ e1=>h2 e he ((e1 ▸ k1).inj h.sk hv w))]
     exact k3
    .exact⟨k,x,hv,hu,S9 _ _ _⟩
   .intro k' v' hf
    by_cases XI:k'=k
    .exact⟨⟨v,u,clock⟩,by simp,by rw[XI];exact hv⟩
    .have hf':m.f k'=some v':=by rw[<-Aw m.f k x XI];exact hf
     obtain⟨e,he,XH⟩:=h.all k' v' hf'
     exact⟨e,by simp only[b1L,a8t];exact .inl he,XH⟩
 .have hj:es[j]?=some e:=by simpa using h2
  have Wm:(es.modify j (λ e'=>{ e' with key:=v,val:=u })).toList=es.toList.set j { e with key:=v,val:=u }:=by
   rw[Array.toList_modify]
   apply b1M
   intro i
   simp only[List.getElem?_modify,b1N]
   by_cases Cd:j=i
   .subst Cd
    have hl:=(a9g.1 h2).1
    simp only[a8O,a8O hl]
    rw[h2]
    rfl
   .simp[Cd]
  refine⟨es.modify j (λ e'=>{ e' with key:=v,val:=u }),clock,?_,?_⟩
  .simp[Instr.mapUpdate,a9s hT,b0T hb,run_checkKey hk hK,run_findKey hk h1,hj,h3,run_keyThatStays hK,run_setObj_map _ hb,Result.andThen]
  .have oth:∀ x'∈es.toList.set j { e with key:=v,val:=u },x'={ e with key:=v,val:=u }\/(x'∈es.toList/\x'.key≠v):=by
    intro x' hx
    obtain⟨i,hi,ex⟩:=b0z hx
    rw[List.getElem_set] at ex
    split at ex
    .exact .inl ex.symm
    .rename_i fG
     have qd:i<es.toList.length:=by simpa using hi
     refine .inr ⟨ex ▸ a9M qd,λ Zk=>?_⟩
     have Ul:j<es.toList.length:=(a9g.1 h2).1
     have hje:es.toList[j]=e:=(a9g.1 h2).2
     have hpw:=List.pairwise_iff_getElem.1 h.nd
     rcases Nat.lt_or_gt_of_ne fG with hl|hl
     .exact hpw j i Ul qd hl (by rw[hje,ex,h3,Zk])
     .exact hpw i j qd Ul hl (by rw[hje,ex,h3,Zk])
   refine⟨h.sk,h.se,?_,by simp[Qh,h4];omega,?_,?_,?_⟩
   .simp[Qh,h4,h.len]
   .rw[Wm]
    exact Jt h.nd h2 (λ x' hx=>by rw[<-h3];exact hx) (λ x' hx=>by rw[<-h3];exact hx)
   .intro e' Cb
    rw[Wm] at Cb
    rcases oth e' Cb with rfl|⟨he,fG⟩
    .exact⟨k,x,hv,hu,S9 _ _ _⟩
    .obtain⟨k',v',k1,k2,k3⟩:=h.ent e' he
     refine⟨k',v',k1,k2,?_⟩
     show Jr m.f k x k'=some v'
     rw[Aw _ _ _ (λ e1=>fG ((e1 ▸ k1).inj h.sk hv w))]
     exact k3
   .intro k' v' hf
    by_cases XI:k'=k
    .refine⟨{ e with key:=v,val:=u },?_,(show k'=k from XI).symm ▸ hv⟩
     rw[Wm]
     exact List.mem_iff_getElem.2 ⟨j,by simpa using (List.getElem?_eq_some_iff.1 h2).1,by simp⟩
    .have hf':m.f k'=some v':=by rw[<-Aw m.f k x XI];exact hf
     obtain⟨e',Cb,XH⟩:=h.all k' v' hf'
     refine⟨e',?_,XH⟩
     rw[Wm]
     obtain⟨i,hi,ex⟩:=b0z Cb
     have Cd:j≠i:=by
      intro e1
      subst e1
      have hje:es.toList[j]=e:=(a9g.1 h2).2
      have:e'=e:=ex ▸ hje
      subst this
      exact XI ((h3 ▸ XH).val h.sk hv w)
     exact List.mem_iff_getElem.2 ⟨i,by simpa using hi,by rw[List.getElem_set_ne Cd];exact ex⟩
end
end Go.Proofs.YtmjfpcajohhbeaaGreatDoor

namespace Go.Proofs.YtmjfpcajohhbeaaGreatDoor
def aT{α β:Type}(R:α->β->Prop):List α->List β->Prop
 | [],[]=>True
 | a::Z9,b::bs=>R a b/\aT R Z9 bs
 | _,_=>False
theorem aT.length{α β:Type}{R:α->β->Prop}:∀ {Z9:List α} {bs:List β},aT R Z9 bs->Z9.length=bs.length
 | [],[],_=>rfl
 | _::_,_::_,h=>by simp[aT.length h.2]
 | [],_::_,h=>h.elim
 | _::_,[],h=>h.elim
theorem aT.imp{α β:Type}{R R':α->β->Prop}:∀ {Z9:List α} {bs:List β},aT R Z9 bs->(∀ a b,a∈Z9->R a b->R' a b)->aT R' Z9 bs
 | [],[],_,_=>trivial
 | _::_,_::_,h,k=>⟨k _ _ (by simp) h.1,aT.imp h.2 λ a b ha=>k a b (by simp[ha])⟩
 | [],_::_,h,_=>h.elim
 | _::_,[],h,_=>h.elim
theorem aT.at_{α β:Type}{R:α->β->Prop}:∀ {Z9:List α} {bs:List β},aT R Z9 bs->∀ (i:Nat) a,Z9[i]?=some a->∃ b,bs[i]?=some b/\R a b
 | [],[],_,i,a,h=>by simp at h
 | _::_,b::_,h,0,a,hi=>by simp at hi;subst hi;exact⟨b,rfl,h.1⟩
 | _::_,_::_,h,i+1,a,hi=>by simpa using aT.at_ h.2 i a (by simpa using hi)
 | [],_::_,h,_,_,_=>h.elim
 | _::_,[],h,_,_,_=>h.elim
theorem aT.append{α β:Type}{R:α->β->Prop}:∀ {Z9:List α} {bs:List β} {as' bs'},aT R Z9 bs->aT R as' bs'->aT R (Z9++as') (bs++bs')
 | [],[],_,_,_,k=>k
 | _::_,_::_,_,_,h,k=>⟨h.1,aT.append h.2 k⟩
 | [],_::_,_,_,h,_=>h.elim
 | _::_,[],_,_,h,_=>h.elim
theorem aT.take{α β:Type}{R:α->β->Prop}(n:Nat):∀ {Z9:List α} {bs:List β},aT R Z9 bs->aT R (Z9.take n) (bs.take n):=by
 induction n with
 | zero=>intro Z9 bs _;simp[aT]
 | succ n ih =>
  intro Z9 bs h
  match Z9,bs,h with
  | [],[],_=>simp[aT]
  | _::_,_::_,h=>exact⟨h.1,ih h.2⟩
theorem aT.drop{α β:Type}{R:α->β->Prop}(n:Nat):∀ {Z9:List α} {bs:List β},aT R Z9 bs->aT R (Z9.drop n) (bs.drop n):=by
 induction n with
 | zero=>intro Z9 bs h;simpa using h
 | succ n ih =>
  intro Z9 bs h
  match Z9,bs,h with
  | [],[],_=>simp[aT]
  | _::_,_::_,h=>exact ih h.2
theorem aT.eO{α β γ:Type}{R:γ->β->Prop}(f:α->γ):∀ {Z9:List α} {bs:List β},aT (λ a b=>R (f a) b) Z9 bs->aT R (Z9.map f) bs
 | [],[],_=>trivial
 | _::_,_::_,h=>⟨h.1,aT.eO f h.2⟩
 | [],_::_,h=>h.elim
 | _::_,[],h=>h.elim
theorem aT.of_map{α β γ:Type}{R:γ->β->Prop}(f:α->γ):∀ {Z9:List α} {bs:List β},aT R (Z9.map f) bs->aT (λ a b=>R (f a) b) Z9 bs
 | [],[],_=>trivial
 | _::_,_::_,h=>⟨h.1,aT.of_map f h.2⟩
 | [],_::_,h=>h.elim
 | _::_,[],h=>h.elim
theorem dB.dR{w:World}{S:Nat->Prop}:∀ {vs:List TV} {cs:List Value},dB w S (vs.map TV.aR) cs↔aT (λ v x=>Rd w S v.aR [x]) vs cs
 | [],[]=>by simp[dB,aT]
 | [],_::_=>by simp[dB,aT]
 | v::vs,[]=>by simp[dB,aT]
 | v::vs,x::cs=>by
  simp only[a9k,dB,aT]
  constructor
  .rintro⟨y,r,h1,h2,h3⟩
   simp only[a8z] at h1
   obtain⟨rfl,rfl⟩:=h1
   exact⟨h2,dB.dR.1 h3⟩
  .rintro⟨h1,h2⟩
   exact⟨x,cs,rfl,h1,dB.dR.2 h2⟩
structure bN(X:Nat->Prop)(w w':World):Prop where
 os:w'.os=w.os
 tape:w'.tape=w.tape
 output:w'.output=w.output
 size:w.heap.size<=w'.heap.size
 block:∀ b,b<w.heap.size->¬ X b->w'.heap[b]?=w.heap[b]?
theorem bN.refl(X:Nat->Prop)(w:World):bN X w w:=⟨rfl,rfl,rfl,a9i _,λ _ _ _=>rfl⟩
theorem bN.trans{X Y:Nat->Prop}{a b c:World}(h:bN X a b)(k:bN Y b c)(hXY:∀ i,i<a.heap.size->Y i->X i):bN X a c :=
 ⟨k.os.trans h.os,k.tape.trans h.tape,k.output.trans h.output,b0N h.size k.size,
  λ i hi hx=>(k.block i (a8G hi h.size) (λ hy=>hx (hXY i hi hy))).trans (h.block i hi hx)⟩
structure Ctx where
 P:Program
 E:Env
 w0:World
 X:Nat->Prop
 S0:Nat->Prop
 R:Nat->Option Value
 Z:Nat->Prop
 RB:Nat->Option Nat
structure Gh where
 S:Nat->Prop
 η:Nat->Value
 φ:Nat->List Nat
def St(c:Ctx)(S:Nat->Prop)(b:Nat):Prop:=S b\/(b<c.w0.heap.size/\¬ c.X b/\¬ c.Z b)
def eV:Value->Option Nat
 | .pointer (some a)=>some a.block
 | .slice (some a) _ _=>some a.block
 | .map (some b)=>some b
 | _=>none
def fA(w:World)(S:Nat->Prop)(v:TV)(x:Value):Prop :=
 match v with
 | ⟨.st s,y⟩=>∃ cs,x = .agg cs.toArray/\Rd w S (s.aR y) cs
 | v=>Rd w S v.aR [x]
def Jz(w:World)(S:Nat->Prop):Arg->Value->Prop
 | .val v,x=>fA w S v x
 | .ref v,x=>∃ b o cs,x = .pointer (some ⟨b,o,none⟩)/\b<w.heap.size/\ct w b o cs/\Rd w S v.aR cs
 | .fn f,x=>x = .func (.func f) #[] #[]
 | .dq _,_=>False
 | .own _,_=>False
 | .box _,_=>False
def DY(w:World)(S:Nat->Prop):List TV->Value->Prop
 | [v],x=>fA w S v x
 | vs,x=>∃ l,x = .tuple l.toArray/\aT (fA w S) vs l
def Gok(w:World)(S:Nat->Prop):Prop:=∀ g∈Y1,S g/\∃ m,w.cell? ⟨g,0,none⟩=some (.int .i64 m)
def wR(w:World)(S:Nat->Prop):Prop:=(∀ b,S b->b<w.heap.size)/\Gok w S
theorem Gok.mono{w w':World}{S S':Nat->Prop}(h:Gok w S)(hS:∀ b,S b->S' b)(hw:∀ b,S b->w'.heap[b]?=w.heap[b]?):Gok w' S':=λ g hg=>by
 obtain⟨h1,m,h2⟩:=h g hg
 exact⟨hS g h1,m,(b1a (a:=⟨g,0,none⟩) (hw g h1)).trans h2⟩
def Lm(P:Program)(f:FuncId)(args:List Arg)(post:List TV->Prop):Prop :=
 ∀ (w:World) (S:Nat->Prop) (cS:List Value),wR w S->aT (Jz w S) args cS ->
  Calls P f cS.toArray w λ e w'=>∃ x S' res,e = .returned x/\post res/\bN (λ _=>False) w w'/\(∀ b,b<w.heap.size->(S' b↔S b))/\(∀ b,S' b->b<w'.heap.size)/\DY w' S' res x
def pX (P:Program) (f:FuncId):Prop:=∃ fn,P.funcs[f]?=some fn/\fn.body.isNone=false/\(fn.name == "runtime.NumGoroutine")=false
def Hr(P:Program)(f:FuncId)(iD:List Arg):(ps:List Ty)->(r:Ty)->FN ps r->List Arg->Prop
 | [],r,F,acc=>F.1->pX P f/\Lm P f (acc++iD) (·=[⟨r,F.2⟩])
 | t::ts,r,F,acc=>∀ x,Hr P f iD ts r (F x) (acc++[.val ⟨t,x⟩])
def Rx(c:Ctx)(S:Nat->Prop)(w:World):Arg->Value->Prop
 | .val v,x=>fA w S v x
 | .ref v,x=>∃ b o cs,x = .pointer (some ⟨b,o,none⟩)/\St c S b/\ct w b o cs/\Rd w S v.aR cs
 | .fn f,x=>x = .func (.func f) #[] #[]
 | .dq _,_=>False
 | .own _,_=>False
 | .box _,_=>False
def C1(c:Ctx)(G:Gh)(lk:Nat->Option aB)(w:World):AV->Value->Prop
 | .any,_=>True
 | .eG,x=>x=undef
 | .aW v,x=>v.τ.agg=false/\Rd w G.S v.aR [x]
 | .nil,x=>x = .slice none 0 0
 | .dn v,x=>∃ b o cs,x = .pointer (some ⟨b,o,none⟩)/\St c G.S b/\ct w b o cs/\Rd w G.S v.aR cs
 | .ptr id off,x=>∃ b,G.η id = .pointer (some ⟨b,0,none⟩)/\x = .pointer (some ⟨b,off,none⟩)/\iy (lk id)=true
 | .row id,x=>x=G.η id/\isRow (lk id)=true/\∃ a n m,x = .slice a n m
 | .eY id i off,x=>∃ b n cap e τ xs,G.η id = .slice (some ⟨b,0,none⟩) n cap/\lk id=some (.row e τ xs)/\i<xs.length/\x = .pointer (some ⟨b,i * τ.size+off,none⟩)
 | .fn f,x=>x = .func (.func f) #[] #[]
 | .aE id,x=>dw (lk id)=true/\∃ l,G.η id = .tuple (x::l).toArray/\∃ a n m,x = .slice a n m
 | .sub id i off sz,x=>dw (lk id)=true/\∃ a n cap l,G.η id = .tuple (.slice a n cap::l).toArray/\i<n/\l[i * sz+off]?=some x/\∃ a n m,x = .slice a n m
 | .fF id i off sz,x=>dw (lk id)=true/\∃ b n cap l,G.η id = .tuple (.slice (some ⟨b,0,none⟩) n cap::l).toArray/\i<n/\x = .pointer (some ⟨b,i * sz+off,none⟩)
 | .kI v,x=>∃ f iD l,x = .func (.func f) #[] l.toArray/\Hr c.P f iD v.ps v.r v.F []/\aT (Rx c G.S w) iD l
 | .mp id,x=>x=G.η id/\KM (lk id)=true/\∃ b,x = .map (some b)
 | .agg _,_=>False
 | .kW _,_=>False
 | .dq ..,_=>False
def TR(c:Ctx)(G:Gh)(lk:Nat->Option aB)(w:World):AV->Value->Prop
 | .any,_=>True
 | .aW v,x=>fA w G.S v x
 | .aE id,x=>C1 c G lk w (.aE id) x
 | .dn v,x=>C1 c G lk w (.dn v) x
 | .agg cs,x=>∃ l,x = .agg l.toArray/\aT (C1 c G lk w) cs l
 | _,_=>False
def CR(c:Ctx)(G:Gh)(lk:Nat->Option aB)(w:World):AV->Value->Prop
 | .aW v,x=>fA w G.S v x
 | .agg cs,x=>∃ l,x = .agg l.toArray/\aT (C1 c G lk w) cs l
 | v,x=>C1 c G lk w v x
def VR(c:Ctx)(G:Gh)(lk:Nat->Option aB)(w:World):AV->Value->Prop
 | .aW v,x=>fA w G.S v x
 | .agg cs,x=>∃ l,x = .agg l.toArray/\aT (C1 c G lk w) cs l
 | .kW vs,x=>∃ l,x = .tuple l.toArray/\aT (TR c G lk w) vs l
 | .dq f cs,x=>∃ l,x = .func (.func f) #[] l.toArray/\aT (CR c G lk w) cs l
 | v,x=>C1 c G lk w v x
def OR(c:Ctx)(G:Gh)(lk:Nat->Option aB)(w:World)(id:Nat):aB->Prop
 | .box cs=>∃ b l t,G.η id = .pointer (some ⟨b,0,none⟩)/\w.heap[b]?=some (.cells l.toArray t (0,0))/\aT (C1 c G lk w) cs l
 | .row e τ xs=>∃ l,w.ownsRow 0 e τ.size (G.η id) xs.length l/\fw w G.S (xs.map τ.aR) l/\xs.length<=140737488355328
 | .aE τ xs=>True
 | .map m=>∃ b es clock,G.η id = .map (some b)/\w.heap[b]?=some (.map es clock)/\Ll m es
def lA(w:World)(η:Value)(τ:Ty)(xs:List τ.den)(fp:List Nat):Prop :=
 ∃ v l a cap,η = .tuple (v::l).toArray/\v = .slice a xs.length cap/\xs.length<=cap/\cap<=maxLen/\xs.length<=140737488355328 /\
  ((xs=[]/\(a=none/\cap=0)/\fp=[])\/∃ b f t,a=some ⟨b,0,none⟩/\fp=b::f/\w.heap[b]?=some (.cells l.toArray t (0,0))/\l.length=cap * τ.size/\bX w (xs.map τ.aR) l f)
structure JD(c:Ctx)(G:Gh)(lk:Nat->Option aB)(w:World):Prop where
 tr:∀ id τ xs,lk id=some (.aE τ xs)->lA w (G.η id) τ xs (G.φ id)
 nd:∀ id τ xs,lk id=some (.aE τ xs)->(G.φ id).Nodup
 pl:∀ id τ xs b,lk id=some (.aE τ xs)->b∈G.φ id->(c.w0.heap.size<=b\/c.X b)/\¬ G.S b/\b<w.heap.size/\∀ i o,lk i=some o->eV (G.η i)≠some b
 ap:∀ id dO τ bo xs dh b,lk id=some (.aE τ xs)->lk dO=some (.aE bo dh)->b∈G.φ id->b∈G.φ dO->id=dO
def XGk(c:Ctx):Prop:=(∀ b,c.X b->b<c.w0.heap.size)/\∀ g∈Y1,c.S0 g/\¬ c.X g/\g<c.w0.heap.size/\∃ m,c.w0.cell? ⟨g,0,none⟩=some (.int .i64 m)
structure bz(c:Ctx)(G:Gh)(sl:Nat->AV)(n:Nat)(lk:Nat->Option aB)(a:Act)(w:World):Prop where
 defers:a.defers=[]
 size:a.tmps.size=n
 aU:bN c.X c.w0 w
 oE:XGk c
 fE:∀ b,b<c.w0.heap.size->¬ c.X b->(G.S b↔c.S0 b)
 sX:∀ b,c.S0 b->G.S b
 ez:∀ b,G.S b->b<w.heap.size
 aC:∀ i,VR c G lk w (sl i) (a.tmps.getD i undef)
 aK:∀ id o,lk id=some o->OR c G lk w id o
 place:∀ id o b,lk id=some o->eV (G.η id)=some b->(c.w0.heap.size<=b\/c.X b)/\¬ G.S b/\b<w.heap.size
 apart:∀ id dO o o' b,lk id=some o->lk dO=some o'->eV (G.η id)=some b->eV (G.η dO)=some b->id=dO
 bc:JD c G lk w
 root:∀ id v,c.R id=some v->dw (lk id)=true->∃ l,G.η id = .tuple (v::l).toArray
 lj:∀ id v,c.R id=some v->50<=id/\id<100
 dQ:∀ id b,c.RB id=some b->iy (lk id)=true->G.η id = .pointer (some ⟨b,0,none⟩)
 gu:∀ id b,c.RB id=some b->400000<=id
theorem bz.sOk{c:Ctx}{G:Gh}{sl:Nat->AV}{n:Nat}{lk:Nat->Option aB}{a:Act}{w:World}(h:bz c G sl n lk a w):wR w G.S:=⟨h.ez,λ g hg=>by
 obtain⟨h1,h2,h3,m,h4⟩:=h.oE.2 g hg
 exact⟨h.sX g h1,m,(b1a (a:=⟨g,0,none⟩) (h.aU.block g h3 h2)).trans h4⟩⟩
def ah.sl(s:ah)(i:Nat):AV:=s.aC.getD i .any
def Inv(c:Ctx)(G:Gh)(s:ah)(a:Act)(w:World):Prop:=bz c G s.sl s.aC.length s.af a w
theorem uR{o:Option aB}(h:isRow o=true):dw o=false:=by
 match o,h with
 | some (.row ..),_=>rfl
theorem Jq{o:Option aB}(h:KM o=true):dw o=false:=by
 match o,h with
 | some (.map _),_=>rfl
def fb(o o':Option aB):Prop :=
 (iy o=true->iy o'=true)/\(∀ e τ xs,o=some (.row e τ xs)->∃ e' dh,o'=some (.row e' τ dh)/\xs.length<=dh.length)/\(dw o=true->dw o'=true)/\(KM o=true->KM o'=true)
theorem fb.refl(o:Option aB):fb o o:=⟨id,λ e τ xs h=>⟨e,xs,h,a9i _⟩,id,id⟩
theorem fb.isRow{o o':Option aB}(h:fb o o')(hr:isRow o=true):YtmjfpcajohhbeaaGreatDoor.isRow o'=true:=by
 match o,hr with
 | some (.row e τ xs),_ =>
  obtain⟨e',dh,h1,_⟩:=h.2.1 e τ xs rfl
  rw[h1];rfl
section
variable {c:Ctx} {G G':Gh} {lk lk':Nat->Option aB} {w w':World}
theorem fA.mono{v:TV}{x:Value}(h:fA w G.S v x)(hS:∀ b,G.S b->G'.S b)(hw:∀ b,G.S b->w'.heap[b]?=w.heap[b]?):fA w' G'.S v x:=by
 obtain⟨τ,y⟩:=v
 cases τ with
 | st s =>
  obtain⟨cs,h1,h2⟩:=h
  exact⟨cs,h1,Rd.aU hS hw _ h2⟩
 | _=>exact Rd.aU hS hw _ h
theorem Rx.mono{S S':Nat->Prop}{v:Arg}{x:Value}(h:Rx c S w v x)(hS:∀ b,S b->S' b)(hw:∀ b,St c S b->w'.heap[b]?=w.heap[b]?):Rx c S' w' v x:=by
 cases v with
 | val v=>exact fA.mono (G:=⟨S,λ _=>undef,λ _=>[]⟩) (G':=⟨S',λ _=>undef,λ _=>[]⟩) h hS (λ b hb=>hw b (.inl hb))
 | ref v =>
  obtain⟨b,o,cs,h1,h2,h3,h4⟩:=h
  exact⟨b,o,cs,h1,h2.imp (hS b) id,h3.aU (hw b h2),Rd.aU hS (λ b hb=>hw b (.inl hb)) _ h4⟩
 | fn f=>exact h
 | dq v=>exact h
 | own v=>exact h
 | box k=>exact h
theorem C1.mono{v:AV}{x:Value}(h:C1 c G lk w v x)(hk:∀ id,v.refs id=true->fb (lk id) (lk' id)/\G'.η id=G.η id)
  (hS:∀ b,G.S b->G'.S b) (hw:∀ b,St c G.S b->w'.heap[b]?=w.heap[b]?):C1 c G' lk' w' v x:=by
 have hw':∀ b,G.S b->w'.heap[b]?=w.heap[b]?:=λ b hb=>hw b (.inl hb)
 cases v with
 | any=>trivial
 | eG=>exact h
 | aW v=>exact⟨h.1,Rd.aU hS hw' _ h.2⟩
 | nil=>exact h
 | dn v =>
  obtain⟨b,o,cs,h1,h2,h3,h4⟩:=h
  exact⟨b,o,cs,h1,h2.imp (hS b) id,h3.aU (hw b h2),Rd.aU hS hw' _ h4⟩
 | ptr id off =>
  obtain⟨b,h1,h2,h3⟩:=h
  obtain⟨k1,k2⟩:=hk id (by simp[AV.refs])
  exact⟨b,k2.trans h1,h2,k1.1 h3⟩
 | row id =>
  obtain⟨h1,h2,h3⟩:=h
  obtain⟨k1,k2⟩:=hk id (by simp[AV.refs])
  exact⟨h1.trans k2.symm,k1.isRow h2,h3⟩
 | eY id i off =>
  obtain⟨b,n,cap,e,τ,xs,h1,h2,h3,h4⟩:=h
  obtain⟨k1,k2⟩:=hk id (by simp[AV.refs])
  obtain⟨e',dh,k3,k4⟩:=k1.2.1 e τ xs h2
  exact⟨b,n,cap,e',τ,dh,k2.trans h1,k3,by omega,h4⟩
 | fn f=>exact h
 | aE id =>
  obtain⟨h1,l,h2,h3⟩:=h
  obtain⟨k1,k2⟩:=hk id (by simp[AV.refs])
  exact⟨k1.2.2.1 h1,l,k2.trans h2,h3⟩
 | sub id i off sz =>
  obtain⟨h1,a,n,cap,l,h2,h3⟩:=h
  obtain⟨k1,k2⟩:=hk id (by simp[AV.refs])
  exact⟨k1.2.2.1 h1,a,n,cap,l,k2.trans h2,h3⟩
 | fF id i off sz =>
  obtain⟨h1,b,n,cap,l,h2,h3⟩:=h
  obtain⟨k1,k2⟩:=hk id (by simp[AV.refs])
  exact⟨k1.2.2.1 h1,b,n,cap,l,k2.trans h2,h3⟩
 | kI v =>
  obtain⟨f,iD,l,h1,h2,h3⟩:=h
  exact⟨f,iD,l,h1,h2,h3.imp λ u y _ hy=>hy.mono hS hw⟩
 | mp id =>
  obtain⟨h1,h2,h3⟩:=h
  obtain⟨k1,k2⟩:=hk id (by simp[AV.refs])
  exact⟨h1.trans k2.symm,k1.2.2.2 h2,h3⟩
 | agg cs=>exact h
 | kW vs=>exact h
 | dq f cs=>exact h
theorem pr{id:Nat}:∀ {cs:List AV} {v:AV},v∈cs->v.refs id=true->AV.iz id cs=true
 | u::r,v,hm,hv=>by
  simp only[AV.iz]
  rcases a8I.1 hm with rfl|h
  .rw[hv]
  .split
   .rfl
   .exact pr h hv
theorem CR.mono{v:AV}{x:Value}(h:CR c G lk w v x)(hk:∀ id,v.refs id=true->fb (lk id) (lk' id)/\G'.η id=G.η id)
  (hS:∀ b,G.S b->G'.S b) (hw:∀ b,St c G.S b->w'.heap[b]?=w.heap[b]?):CR c G' lk' w' v x:=by
 cases v with
 | aW v=>exact fA.mono h hS (λ b hb=>hw b (.inl hb))
 | agg cs =>
  obtain⟨l,h1,h2⟩:=h
  exact⟨l,h1,h2.imp λ u y hu hy=>hy.mono (λ id bf=>hk id (by simp only[AV.refs];exact pr hu bf)) hS hw⟩
 | any=>trivial
 | eG=>exact h
 | nil=>exact C1.mono (v := .nil) h hk hS hw
 | dn v=>exact C1.mono (v := .dn v) h hk hS hw
 | ptr i o=>exact C1.mono (v := .ptr i o) h hk hS hw
 | row i=>exact C1.mono (v := .row i) h hk hS hw
 | eY i k o=>exact C1.mono (v := .eY i k o) h hk hS hw
 | fn f=>exact C1.mono (v := .fn f) h hk hS hw
 | aE i=>exact C1.mono (v := .aE i) h hk hS hw
 | sub i k o z=>exact C1.mono (v := .sub i k o z) h hk hS hw
 | fF i k o z=>exact C1.mono (v := .fF i k o z) h hk hS hw
 | kI v=>exact C1.mono (v := .kI v) h hk hS hw
 | mp i=>exact C1.mono (v := .mp i) h hk hS hw
 | kW _=>exact h
 | dq _ _=>exact h
theorem VR.mono{v:AV}{x:Value}(h:VR c G lk w v x)(hk:∀ id,v.refs id=true->fb (lk id) (lk' id)/\G'.η id=G.η id)
  (hS:∀ b,G.S b->G'.S b) (hw:∀ b,St c G.S b->w'.heap[b]?=w.heap[b]?):VR c G' lk' w' v x:=by
 have hw':∀ b,G.S b->w'.heap[b]?=w.heap[b]?:=λ b hb=>hw b (.inl hb)
 cases v with
 | aW v=>exact fA.mono h hS hw'
 | agg cs =>
  obtain⟨l,h1,h2⟩:=h
  exact⟨l,h1,h2.imp λ u y hu hy=>hy.mono (λ id bf=>hk id (by simp only[AV.refs];exact pr hu bf)) hS hw⟩
 | kW vs =>
  obtain⟨l,h1,h2⟩:=h
  refine⟨l,h1,h2.imp λ u y hu hy=>?_⟩
  have oS:∀ id,u.refs id=true->fb (lk id) (lk' id)/\G'.η id=G.η id:=λ id bf=>hk id (by simp only[AV.refs];exact pr hu bf)
  cases u with
  | any=>trivial
  | aW v=>exact fA.mono hy hS hw'
  | aE i=>exact C1.mono (v := .aE i) hy oS hS hw
  | dn v=>exact C1.mono (v := .dn v) hy oS hS hw
  | agg cs =>
   obtain⟨l,h1,h2⟩:=hy
   exact⟨l,h1,h2.imp λ u y hu hy=>hy.mono (λ id bf=>oS id (by simp only[AV.refs];exact pr hu bf)) hS hw⟩
  | _=>exact hy.elim
 | eG=>trivial
 | any=>trivial
 | nil=>exact C1.mono (v := .nil) h hk hS hw
 | dn v=>exact C1.mono (v := .dn v) h hk hS hw
 | ptr i o=>exact C1.mono (v := .ptr i o) h hk hS hw
 | row i=>exact C1.mono (v := .row i) h hk hS hw
 | eY i k o=>exact C1.mono (v := .eY i k o) h hk hS hw
 | fn f=>exact C1.mono (v := .fn f) h hk hS hw
 | aE i=>exact C1.mono (v := .aE i) h hk hS hw
 | sub i k o z=>exact C1.mono (v := .sub i k o z) h hk hS hw
 | fF i k o z=>exact C1.mono (v := .fF i k o z) h hk hS hw
 | kI v=>exact C1.mono (v := .kI v) h hk hS hw
 | mp i=>exact C1.mono (v := .mp i) h hk hS hw
 | dq f cs =>
  obtain⟨l,h1,h2⟩:=h
  exact⟨l,h1,h2.imp λ u y hu hy=>hy.mono (λ id bf=>hk id (by simp only[AV.refs];exact pr hu bf)) hS hw⟩
def aB.refs(id:Nat):aB->Bool
 | .box cs=>AV.iz id cs
 | .row .. => false
 | .aE .. => false
 | .map .. => false
theorem ux{v:Value}{e:TypeId}{size n:Nat}{l:List Value}(h:w.ownsRow 0 e size v n l):v.ownBlock=eV v:=by
 rcases h.2 with ⟨rfl,_⟩|⟨g,cap,cur,rfl,_⟩<;>rfl
theorem Js{e:TypeId}{size n:Nat}{v:Value}{l:List Value}(h:w.ownsRow 0 e size v n l)(hb:∀ b,eV v=some b->w'.heap[b]?=w.heap[b]?):w'.ownsRow 0 e size v n l:=by
 refine⟨h.1,h.2.imp id ?_⟩
 rintro⟨g,cap,cur,rfl,h1,h2,h3⟩
 exact⟨g,cap,cur,rfl,h1,by rw[hb g rfl];exact h2,h3⟩
theorem OR.mono{id:Nat}{o:aB}(h:OR c G lk w id o)(iM:G'.η id=G.η id)(hb:∀ b,eV (G.η id)=some b->w'.heap[b]?=w.heap[b]?)
  (hk:∀ j,o.refs j=true->fb (lk j) (lk' j)/\G'.η j=G.η j) (hS:∀ b,G.S b->G'.S b) (hw:∀ b,St c G.S b->w'.heap[b]?=w.heap[b]?):OR c G' lk' w' id o:=by
 cases o with
 | box cs =>
  obtain⟨b,l,t,h1,h2,h3⟩:=h
  refine⟨b,l,t,iM.trans h1,?_,h3.imp λ u y hu hy=>hy.mono (λ j hj=>hk j (pr hu hj)) hS hw⟩
  rw[hb b (by rw[h1];rfl)];exact h2
 | row e τ xs =>
  obtain⟨l,h1,h2,h3⟩:=h
  refine⟨l,?_,fw.aU hS (λ b hb=>hw b (.inl hb)) _ h2,h3⟩
  rw[iM]
  exact Js h1 hb
 | aE τ xs=>trivial
 | map m =>
  obtain⟨b,es,clock,h1,h2,h3⟩:=h
  exact⟨b,es,clock,iM.trans h1,by rw[hb b (by rw[h1];rfl)];exact h2,h3⟩
end
theorem lA.aU{w w':World}{η:Value}{τ:Ty}{xs:List τ.den}{fp:List Nat}(h:lA w η τ xs fp)(hw:∀ b∈fp,w'.heap[b]?=w.heap[b]?):lA w' η τ xs fp:=by
 obtain⟨v,l,a,cap,h1,h2,h3,h4,h5,h6⟩:=h
 refine⟨v,l,a,cap,h1,h2,h3,h4,h5,h6.imp id ?_⟩
 rintro⟨b,f,t,k1,rfl,k2,k0,k3⟩
 exact⟨b,f,t,k1,rfl,by rw[hw b (by simp)];exact k2,k0,bX.aU _ k3 λ b hb=>hw b (by simp[hb])⟩
theorem bz.world{c:Ctx}{G:Gh}{sl:Nat->AV}{n:Nat}{lk:Nat->Option aB}{a:Act}{w w':World}{S':Nat->Prop}(h:bz c G sl n lk a w)
  (iw:bN (λ b=>c.w0.heap.size<=b\/c.X b) w w') (hS:∀ b,G.S b->S' b) (a2k:∀ b,b<w.heap.size->(S' b↔G.S b)) (hX:∀ b,c.S0 b->S' b) (hLt:∀ b,S' b->b<w'.heap.size)
  (hw:∀ b,St c G.S b->w'.heap[b]?=w.heap[b]?) (oM:∀ id o b,lk id=some o->eV (G.η id)=some b->w'.heap[b]?=w.heap[b]?) (Fb:∀ id τ xs b,lk id=some (.aE τ xs)->b∈G.φ id->w'.heap[b]?=w.heap[b]?) :
  bz c ⟨S',G.η,G.φ⟩ sl n lk a w' where
 defers:=h.defers
 size:=h.size
 aU:=h.aU.trans iw λ i hi hy=>hy.elim (λ h=>by omega) id
 oE:=h.oE
 fE b hb hx:=(a2k b (a8G hb h.aU.size)).trans (h.fE b hb hx)
 sX:=hX
 ez:=hLt
 aC i:=(h.aC i).mono (λ id _=>⟨fb.refl _,rfl⟩) hS hw
 aK id o ho:=(h.aK id o ho).mono rfl (λ b hb=>oM id o b ho hb) (λ j _=>⟨fb.refl _,rfl⟩) hS hw
 place id o b ho hb:=by
  obtain⟨h1,h2,h3⟩:=h.place id o b ho hb
  exact⟨h1,λ hs=>h2 ((a2k b h3).1 hs),a8G h3 iw.size⟩
 apart:=h.apart
 bc:={
  tr:=λ id τ xs ht=>(h.bc.tr id τ xs ht).aU λ b hb=>Fb id τ xs b ht hb
  nd:=h.bc.nd
  pl:=λ id τ xs b ht hb=>by
   obtain⟨h1,h2,h3,h4⟩:=h.bc.pl id τ xs b ht hb
   exact⟨h1,λ hs=>h2 ((a2k b h3).1 hs),a8G h3 iw.size,h4⟩
  ap:=h.bc.ap }
 root:=h.root
 lj:=h.lj
 dQ:=h.dQ
 gu:=h.gu
theorem bz.drew{c:Ctx}{G:Gh}{sl:Nat->AV}{n:Nat}{lk:Nat->Option aB}{a:Act}{w:World}(h:bz c G sl n lk a w):bz c G sl n lk a w.drew :=
 h.world (S':=G.S) ⟨rfl,rfl,rfl,a9i _,λ _ _ _=>rfl⟩ (λ _ h=>h) (λ _ _=>b0w) h.sX h.ez (λ _ _=>rfl) (λ _ _ _ _ _=>rfl) (λ _ _ _ _ _ _=>rfl)
def mZ(n:Nat)(sl:Nat->AV)(d:Option Nat)(v:AV)(i:Nat):AV:=if d=some i/\i<n then v else sl i
theorem eM(a:Act)(d:Option Nat)(x:Value)(i:Nat):(a.put d x).tmps.getD i undef=if d=some i/\i<a.tmps.size then x else a.tmps.getD i undef:=by
 cases d with
 | none=>simp[Act.put]
 | some d =>
  simp only[Act.put,a8o]
  by_cases h:d=i
  .subst h
   by_cases hl:d<a.tmps.size
   .simp[hl,a9n]
   .simp[hl,a9n,Array.setIfInBounds]
  .simp[h,a9n,b1F]
theorem jw(a:Act)(d:Option Nat)(x:Value):(a.put d x).tmps.size=a.tmps.size:=by cases d<;>simp[Act.put]
theorem mU(a:Act)(d:Option Nat)(x:Value):(a.put d x).defers=a.defers:=by cases d<;>rfl
theorem bz.put{c:Ctx}{G:Gh}{sl:Nat->AV}{n:Nat}{lk:Nat->Option aB}{a:Act}{w:World}(h:bz c G sl n lk a w){d:Option Nat}{v:AV}{x:Value}(hv:VR c G lk w v x) :
  bz c G (mZ n sl d v) n lk (a.put d x) w where
 defers:=(mU _ _ _).trans h.defers
 size:=(jw _ _ _).trans h.size
 aU:=h.aU
 oE:=h.oE
 fE:=h.fE
 sX:=h.sX
 ez:=h.ez
 aC i:=by
  rw[eM,h.size,mZ]
  split
  .exact hv
  .exact h.aC i
 aK:=h.aK
 place:=h.place
 apart:=h.apart
 bc:=h.bc
 root:=h.root
 lj:=h.lj
 dQ:=h.dQ
 gu:=h.gu
theorem bz.forget{c:Ctx}{G:Gh}{sl sl':Nat->AV}{n:Nat}{lk:Nat->Option aB}{a:Act}{w:World}(h:bz c G sl n lk a w)(hs:∀ i,sl' i=sl i\/sl' i = .any):bz c G sl' n lk a w where
 defers:=h.defers
 size:=h.size
 aU:=h.aU
 oE:=h.oE
 fE:=h.fE
 sX:=h.sX
 ez:=h.ez
 aC i:=by
  rcases hs i with e|e
  .rw[e];exact h.aC i
  .rw[e];trivial
 aK:=h.aK
 place:=h.place
 apart:=h.apart
 bc:=h.bc
 root:=h.root
 lj:=h.lj
 dQ:=h.dQ
 gu:=h.gu
theorem XU(id:Nat)(v:AV):v.kill id=v\/v.kill id = .any:=by unfold AV.kill;split<;>simp
theorem Dy(id:Nat)(v:AV):(v.kill id).refs id=false:=by
 unfold AV.kill
 split
 .rfl
 .assumption
theorem C1.kill{c:Ctx}{G:Gh}{lk:Nat->Option aB}{w:World}{v:AV}{x:Value}(h:C1 c G lk w v x)(id:Nat):C1 c G lk w (v.kill id) x:=by
 rcases XU id v with e|e
 .rw[e];exact h
 .rw[e];trivial
theorem G5(id:Nat):∀ cs:List AV,AV.iz id (cs.map (AV.kill id))=false
 | []=>rfl
 | v::r=>by simp only[a9k,AV.iz,Dy];exact G5 id r
theorem OR.kill{c:Ctx}{G:Gh}{lk:Nat->Option aB}{w:World}{i:Nat}{o:aB}(h:OR c G lk w i o)(id:Nat):OR c G lk w i (o.kill id):=by
 cases o with
 | box cs =>
  obtain⟨b,l,t,h1,h2,h3⟩:=h
  exact⟨b,l,t,h1,h2,aT.eO _ (h3.imp λ u y _ hy=>hy.kill id)⟩
 | row e τ xs=>exact h
 | aE τ xs=>exact h
 | map m=>exact h
theorem K6(id:Nat)(o:Option aB):fb o (o.map (aB.kill id)):=by
 refine⟨λ h=>?_,λ e τ xs h=>⟨e,xs,by rw[h];rfl,a9i _⟩,λ h=>?_,λ h=>?_⟩
 .match o,h with
  | some (.box cs),_=>rfl
 .match o,h with
  | some (.aE τ xs),_=>rfl
 .match o,h with
  | some (.map m),_=>rfl
theorem mJ{id:Nat}{o:Option aB}{τ:Ty}{xs:List τ.den}(h:o.map (aB.kill id)=some (.aE τ xs)):o=some (.aE τ xs):=by
 match o,h with
 | some (.aE bo dh),h=>exact h
 | some (.box _),h=>cases h
 | some (.row ..),h=>cases h
theorem JD.sub{c:Ctx}{G:Gh}{lk lk':Nat->Option aB}{w:World}(h:JD c G lk w)(ht:∀ id τ xs,lk' id=some (.aE τ xs)->lk id=some (.aE τ xs))(ho:∀ i o,lk' i=some o->∃ o',lk i=some o'):JD c G lk' w where
 tr id τ xs k:=h.tr id τ xs (ht id τ xs k)
 nd id τ xs k:=h.nd id τ xs (ht id τ xs k)
 pl id τ xs b k hb:=by
  obtain⟨h1,h2,h3,h4⟩:=h.pl id τ xs b (ht id τ xs k) hb
  exact⟨h1,h2,h3,λ i o hi=>(ho i o hi).elim λ o' cQ=>h4 i o' cQ⟩
 ap id dO τ bo xs dh b k k':=h.ap id dO τ bo xs dh b (ht id τ xs k) (ht dO bo dh k')
theorem bz.cm{c:Ctx}{G:Gh}{sl:Nat->AV}{n:Nat}{lk:Nat->Option aB}{a:Act}{w:World}(h:bz c G sl n lk a w)(id:Nat) :
  bz c G (λ i=>(sl i).kill id) n (λ i=>(lk i).map (aB.kill id)) a w:=by
 have h1:bz c G (λ i=>(sl i).kill id) n lk a w:=h.forget λ i=>XU id (sl i)
 exact {
  defers:=h1.defers,size:=h1.size,aU:=h1.aU,oE:=h1.oE,fE:=h1.fE,sX:=h1.sX,ez:=h1.ez
  aC:=λ i=>(h1.aC i).mono (λ j _=>⟨K6 id _,rfl⟩) (λ _ h=>h) (λ _ _=>rfl)
  aK:=λ i o ho=>by
   rw[a9m] at ho
   obtain⟨o',cQ,rfl⟩:=ho
   exact ((h1.aK i o' cQ).kill id).mono rfl (λ _ _=>rfl) (λ j _=>⟨K6 id _,rfl⟩) (λ _ h=>h) (λ _ _=>rfl)
  place:=λ i o b ho hb=>by
   rw[a9m] at ho
   obtain⟨o',cQ,rfl⟩:=ho
   exact h1.place i o' b cQ hb
  apart:=λ i j o o' b ho cQ hb cD=>by
   rw[a9m] at ho cQ
   obtain⟨p,hp,rfl⟩:=ho
   obtain⟨q,hq,rfl⟩:=cQ
   exact h1.apart i j p q b hp hq hb cD
  bc:=h1.bc.sub (λ i τ xs k=>mJ k) (λ i o k=>by
   rw[a9m] at k
   obtain⟨p,hp,_⟩:=k
   exact⟨p,hp⟩)
  root:=λ i v hr ht=>h1.root i v hr (by
   match hl:lk i,ht with
   | some (.aE ..),_=>rfl
   | some (.box _),ht=>simp[hl,aB.kill,dw] at ht
   | some (.row ..),ht=>simp[hl,aB.kill,dw] at ht
   | none,ht=>simp[hl,dw] at ht)
  lj:=h1.lj
  dQ:=λ i v hr ht=>h1.dQ i v hr (by
   match hl:lk i,ht with
   | some (.box _),_=>rfl
   | some (.aE ..),ht=>simp[hl,aB.kill,iy] at ht
   | some (.row ..),ht=>simp[hl,aB.kill,iy] at ht
   | none,ht=>simp[hl,iy] at ht)
  gu:=h1.gu }
theorem bz.a3E{c:Ctx}{G:Gh}{sl:Nat->AV}{n:Nat}{lk:Nat->Option aB}{a:Act}{w:World}(h:bz c G sl n lk a w)(id:Nat)
  (hs:∀ i,(sl i).refs id=false) (ho:∀ i o,lk i=some o->i≠id->o.refs id=false):bz c G sl n (λ i=>if i=id then none else lk i) a w:=by
 have gN:∀ j,j≠id->fb (lk j) ((λ i=>if i=id then none else lk i) j):=λ j hj=>by simp only[a8y hj];exact fb.refl _
 exact {
  defers:=h.defers,size:=h.size,aU:=h.aU,oE:=h.oE,fE:=h.fE,sX:=h.sX,ez:=h.ez
  aC:=λ i=>(h.aC i).mono (λ j hj=>⟨gN j (λ e=>by subst e;rw[hs i] at hj;cases hj),rfl⟩) (λ _ h=>h) (λ _ _=>rfl)
  aK:=λ i o cE=>by
   by_cases hi:i=id
   .simp[hi] at cE
   .simp only[a8y hi] at cE
    exact (h.aK i o cE).mono rfl (λ _ _=>rfl) (λ j hj=>⟨gN j (λ e=>by subst e;rw[ho i o cE hi] at hj;cases hj),rfl⟩) (λ _ h=>h) (λ _ _=>rfl)
  place:=λ i o b cE hb=>by
   by_cases hi:i=id
   .simp[hi] at cE
   .simp only[a8y hi] at cE
    exact h.place i o b cE hb
  apart:=λ i j o o' b cE KG hb cD=>by
   by_cases hi:i=id
   .simp[hi] at cE
   .by_cases hj:j=id
    .simp[hj] at KG
    .simp only[a8y hi] at cE
     simp only[a8y hj] at KG
     exact h.apart i j o o' b cE KG hb cD
  bc:=h.bc.sub (λ i τ xs k=>by
   by_cases hi:i=id
   .simp[hi] at k
   .simpa only[if_neg hi] using k) (λ i o k=>by
   by_cases hi:i=id
   .simp[hi] at k
   .exact⟨o,by simpa only[if_neg hi] using k⟩)
  root:=λ i v hr ht=>h.root i v hr (by
   by_cases hi:i=id
   .simp[hi,dw] at ht
   .simpa only[if_neg hi] using ht)
  lj:=h.lj
  dQ:=λ i v hr ht=>h.dQ i v hr (by
   by_cases hi:i=id
   .simp[hi,iy] at ht
   .simpa only[if_neg hi] using ht)
  gu:=h.gu }
theorem bz.newObj{c:Ctx}{G:Gh}{sl:Nat->AV}{n:Nat}{lk:Nat->Option aB}{a:Act}{w:World}(h:bz c G sl n lk a w)(id:Nat)(o:aB)(x:Value)
  (bf:lk id=none) (hs:∀ i,(sl i).refs id=false) (ho:∀ i o,lk i=some o->o.refs id=false) (hor:o.refs id=false)
  (tE:OR c ⟨G.S,λ i=>if i=id then x else G.η i,G.φ⟩ (λ i=>if i=id then some o else lk i) w id o)
  (QH:dw (some o)=false) (bS:iy (some o)=false\/id<400000) (l7:∀ b,eV x=some b->(c.w0.heap.size<=b\/c.X b)/\¬ G.S b/\b<w.heap.size/\(∀ i o',lk i=some o'->eV (G.η i)≠some b)/\∀ j τ xs,lk j=some (.aE τ xs)->b∉G.φ j) :
  bz c ⟨G.S,λ i=>if i=id then x else G.η i,G.φ⟩ sl n (λ i=>if i=id then some o else lk i) a w:=by
 have gN:∀ j,j≠id->fb (lk j) ((λ i=>if i=id then some o else lk i) j)/\(if j=id then x else G.η j)=G.η j:=λ j hj=>by simp only[a8y hj];exact⟨fb.refl _,trivial⟩
 exact {
  defers:=h.defers,size:=h.size,aU:=h.aU,oE:=h.oE,fE:=h.fE,sX:=h.sX,ez:=h.ez
  aC:=λ i=>(h.aC i).mono (λ j hj=>gN j (λ e=>by subst e;rw[hs i] at hj;cases hj)) (λ _ h=>h) (λ _ _=>rfl)
  aK:=λ i o' cE=>by
   by_cases hi:i=id
   .subst hi
    simp only[b0r,a8o] at cE
    subst cE
    exact tE
   .simp only[a8y hi] at cE
    exact (h.aK i o' cE).mono (by simp only[a8y hi]) (λ _ _=>rfl) (λ j hj=>gN j (λ e=>by subst e;rw[ho i o' cE] at hj;cases hj)) (λ _ h=>h) (λ _ _=>rfl)
  place:=λ i o' b cE hb=>by
   by_cases hi:i=id
   .simp only[a8O hi] at hb
    obtain⟨h1,h2,h3,_⟩:=l7 b hb
    exact⟨h1,h2,h3⟩
   .simp only[a8y hi] at cE hb
    exact h.place i o' b cE hb
  apart:=λ i j o1 o2 b cE KG hb cD=>by
   by_cases hi:i=id
   .by_cases hj:j=id
    .rw[hi,hj]
    .simp only[a8y hj] at KG cD
     simp only[a8O hi] at hb
     exact absurd cD ((l7 b hb).2.2.2.1 j o2 KG)
   .by_cases hj:j=id
    .simp only[a8y hi] at cE hb
     simp only[a8O hj] at cD
     exact absurd hb ((l7 b cD).2.2.2.1 i o1 cE)
    .simp only[a8y hi] at cE hb
     simp only[a8y hj] at KG cD
     exact h.apart i j o1 o2 b cE KG hb cD
  bc:=by
   have hold:∀ j τ xs,(if j=id then some o else lk j)=some (.aE τ xs)->j≠id/\lk j=some (.aE τ xs):=λ j τ xs k=>by
    by_cases hj:j=id
    .rw[a8O hj] at k
     cases k
     cases QH
    .rw[a8y hj] at k
     exact⟨hj,k⟩
   exact {
    tr:=λ j τ xs k=>by
     obtain⟨h1,h2⟩:=hold j τ xs k
     simp only[a8y h1]
     exact h.bc.tr j τ xs h2
    nd:=λ j τ xs k=>h.bc.nd j τ xs (hold j τ xs k).2
    pl:=λ j τ xs b k hb=>by
     obtain⟨h1,h2,h3,h4⟩:=h.bc.pl j τ xs b (hold j τ xs k).2 hb
     refine⟨h1,h2,h3,λ i p wX=>?_⟩
     by_cases hi:i=id
     .simp only[a8O hi]
      exact λ e=>(l7 b e).2.2.2.2 j τ xs (hold j τ xs k).2 hb
     .simp only[a8y hi] at wX ⊢
      exact h4 i p wX
    ap:=λ j j' τ bo xs dh b k k'=>h.bc.ap j j' τ bo xs dh b (hold j τ xs k).2 (hold j' bo dh k').2 }
  root:=λ i v hr ht=>by
   by_cases hi:i=id
   .simp only[a8O hi] at ht;rw[QH] at ht;cases ht
   .simp only[a8y hi] at ht ⊢;exact h.root i v hr ht
  lj:=h.lj
  dQ:=λ i v hr ht=>by
   by_cases hi:i=id
   .subst hi
    rcases bS with bS|bS
    .simp only[b0r] at ht
     rw[bS] at ht
     cases ht
    .have:=h.gu i v hr;omega
   .simp only[a8y hi] at ht ⊢;exact h.dQ i v hr ht
  gu:=h.gu }
theorem bz.WD{c:Ctx}{G:Gh}{sl:Nat->AV}{n:Nat}{lk:Nat->Option aB}{a:Act}{w w':World}(h:bz c G sl n lk a w)(id:Nat)(o o':aB)(b:Nat)(bf:lk id=some o)(hb:eV (G.η id)=some b)
  (gN:fb (some o) (some o')) (QH:dw (some o')=false) (hw:∀ k,k≠b->w'.heap[k]?=w.heap[k]?) (hos:w'.os=w.os) (Zi:w'.tape=w.tape) (Vg:w'.output=w.output) (On:w'.heap.size=w.heap.size)
  (tE:OR c G (λ i=>if i=id then some o' else lk i) w' id o'):bz c G sl n (λ i=>if i=id then some o' else lk i) a w':=by
 obtain⟨XM,hp2,hp3⟩:=h.place id o b bf hb
 have cw:∀ k,St c G.S k->w'.heap[k]?=w.heap[k]?:=λ k hk=>hw k λ e=>by
  subst e
  rcases hk with hk|hk
  .exact hp2 hk
  .exact XM.elim (λ q=>by omega) hk.2.1
 have hs:∀ j,fb (lk j) ((λ i=>if i=id then some o' else lk i) j):=λ j=>by
  by_cases hj:j=id
  .subst hj;simp only[b0r];rw[bf];exact gN
  .simp only[a8y hj];exact fb.refl _
 exact {
  defers:=h.defers,size:=h.size
  aU:=h.aU.trans (Y:=λ k=>c.w0.heap.size<=k\/c.X k) ⟨hos,Zi,Vg,Nat.le_of_eq On.symm,λ k _ hx=>hw k λ e=>by subst e;exact hx XM⟩ λ i hi hy=>hy.elim (λ h=>by omega) (λ h=>h)
  oE:=h.oE,fE:=h.fE,sX:=h.sX
  ez:=λ k hk=>by rw[On];exact h.ez k hk
  aC:=λ i=>(h.aC i).mono (λ j _=>⟨hs j,rfl⟩) (λ _ h=>h) cw
  aK:=λ i p hp=>by
   by_cases hi:i=id
   .subst hi
    simp only[b0r,a8o] at hp
    subst hp
    exact tE
   .simp only[a8y hi] at hp
    exact (h.aK i p hp).mono rfl (λ k hk=>hw k λ e=>by subst e;exact hi (h.apart i id p o _ hp bf hk hb)) (λ j _=>⟨hs j,rfl⟩) (λ _ h=>h) cw
  place:=λ i p k hp hk=>by
   rw[On]
   by_cases hi:i=id
   .subst hi;exact h.place i o k bf hk
   .simp only[a8y hi] at hp
    exact h.place i p k hp hk
  apart:=λ i j p q k hp hq hk oS=>by
   by_cases hi:i=id
   .by_cases hj:j=id
    .rw[hi,hj]
    .simp only[a8y hj] at hq
     rw[hi] at hk ⊢
     exact h.apart id j o q k bf hq hk oS
   .simp only[a8y hi] at hp
    by_cases hj:j=id
    .rw[hj] at oS ⊢
     exact h.apart i id p o k hp bf hk oS
    .simp only[a8y hj] at hq
     exact h.apart i j p q k hp hq hk oS
  bc:=by
   have hold:∀ j τ xs,(if j=id then some o' else lk j)=some (.aE τ xs)->lk j=some (.aE τ xs):=λ j τ xs k=>by
    by_cases hj:j=id
    .rw[a8O hj] at k
     cases k
     cases QH
    .rwa [a8y hj] at k
   exact {
    tr:=λ j τ xs k=>(h.bc.tr j τ xs (hold j τ xs k)).aU λ k' oS=>hw k' λ e=>by
     subst e
     exact (h.bc.pl j τ xs _ (hold j τ xs k) oS).2.2.2 id o bf hb
    nd:=λ j τ xs k=>h.bc.nd j τ xs (hold j τ xs k)
    pl:=λ j τ xs b' k cD=>by
     obtain⟨h1,h2,h3,h4⟩:=h.bc.pl j τ xs b' (hold j τ xs k) cD
     refine⟨h1,h2,by rw[On];exact h3,λ i p wX=>?_⟩
     by_cases hi:i=id
     .rw[hi];exact h4 id o bf
     .rw[a8y hi] at wX
      exact h4 i p wX
    ap:=λ j j' τ bo xs dh b' k k'=>h.bc.ap j j' τ bo xs dh b' (hold j τ xs k) (hold j' bo dh k') }
  root:=λ i v hr ht=>by
   by_cases hi:i=id
   .simp only[a8O hi] at ht;rw[QH] at ht;cases ht
   .simp only[a8y hi] at ht;exact h.root i v hr ht
  lj:=h.lj
  dQ:=λ i v hr ht=>by
   by_cases hi:i=id
   .subst hi
    simp only[b0r] at ht
    refine h.dQ i v hr ?_
    rw[bf]
    cases o with
    | box cs=>rfl
    | row e τ xs=>obtain⟨e',dh,q,_⟩:=gN.2.1 e τ xs rfl;rw[q] at ht;cases ht
    | aE τ xs=>have h3:dw (some o')=true:=gN.2.2.1 rfl;rw[QH] at h3;cases h3
    | map m =>
     obtain⟨b1,_,_,k1,_⟩:=h.aK i _ bf
     match o',ht with
     | .box cs,_ =>
      obtain⟨b2,_,_,k2,_⟩:=tE
      rw[k1] at k2;cases k2
   .simp only[a8y hi] at ht;exact h.dQ i v hr ht
  gu:=h.gu }
end Go.Proofs.YtmjfpcajohhbeaaGreatDoor

namespace Go.Proofs.YtmjfpcajohhbeaaGreatDoor
def yU:Ty->Value->Bool
 | .int k, .int k' n=>decide (k=k')&&decide (n=0)
 | .bool, .bool b => !b
 | .str, .string s=>s.data.toList.isEmpty
 | .slice _, .slice none 0 0=>true
 | .ptr, .pointer none=>true
 | _,_=>false
def NQ:List Ty->List Value->Bool
 | [],[]=>true
 | t::ts,v::vs=>yU t v&&NQ ts vs
 | _,_=>false
def AK(τ:Ty)(v:Value):Bool :=
 match τ,v with
 | .st s, .agg cs=>NQ s.xH cs.toList
 | .st _,_=>false
 | τ,v=>yU τ v
def Ro(P:Program)(T:TypeId)(τ:Ty):Bool :=
 match P.info? T with
 | some i=>Nat.beq i.size τ.size&&(match i.zero with
  | some z=>AK τ z
  | none=>false)
 | none=>false
def Hw(E:Env)(s:aS):Nat->List Field->List Ty->Bool
 | _,[],[]=>true
 | i,f::fs,t::ts=>(match af E.ty f.type with
   | some (τ,_)=>decide (τ=t)
   | none=>false)&&Nat.beq f.offset (s.gq i)&&Hw E s (i+1) fs ts
 | _,_,_=>false
def uS(P:Program)(E:Env)(T:TypeId)(τ:Ty)(b e:Nat):Bool :=
 Ro P T τ&&match τ with
  | .int k=>match P.underlying T with
   | some (.int k')=>decide (k=k')
   | _=>false
  | .bool=>match P.underlying T with
   | some .bool=>true
   | _=>false
  | .str=>match P.underlying T with
   | some .string=>true
   | _=>false
  | .slice t=>match P.underlying T with
   | some (.slice e')=>Nat.beq e e'&&(match af E.ty e with
     | some (bo,_)=>decide (bo=t)
     | none=>false)&&(match P.info? e with
     | some i=>Nat.beq i.bytes b
     | none=>false)&&Ro P e t
   | _=>false
  | .st s=>match P.underlying T with
   | some (.struct fs)=>Hw E s 0 fs.toList s.ic
   | _=>false
  | .mv _=>false
  | .ptr=>match P.underlying T with
   | some (.pointer _)=>true
   | _=>false
def S5(P:Program)(E:Env)(T:TypeId)(κ ε:Ty):Bool:=match P.underlying T with
 | some (.map k e)=>match af E.ty k,af E.ty e with
  | some (κ',_),some (ε',_)=>decide (κ'=κ)&&(decide (ε'=ε)&&(κ.key&&ε.key))
  | _,_=>false
 | _=>false
structure Info(P:Program)(T:TypeId)(τ:Ty):Prop where
 ex:∃ i z,P.info? T=some i/\i.size=τ.size/\i.zero=some z/\AK τ z=true
theorem XS{P:Program}{T:TypeId}{τ:Ty}(h:Ro P T τ=true):Info P T τ:=by
 unfold Ro at h
 split at h
 .rename_i i hi
  simp only[a8r] at h
  obtain⟨h1,h2⟩:=h
  split at h2
  .rename_i z hz
   exact⟨i,z,hi,a8s h1,hz,h2⟩
  .cases h2
 .cases h
def zm(P:Program)(w:World)(S:Nat->Prop):Arg->Value->Prop
 | .dq v,x=>∃ f iD l,x = .func (.func f) #[] l.toArray/\Hr P f iD v.ps v.r v.F []/\aT (Jz w S) iD l
 | a,x=>Jz w S a x
theorem zm.of0{P:Program}{w:World}{S:Nat->Prop}{a:Arg}{x:Value}(h:Jz w S a x):zm P w S a x:=by
 cases a with
 | dq v=>exact h.elim
 | own v=>exact h.elim
 | box k=>exact h.elim
 | _=>exact h
def bh(P:Program)(f:FuncId)(args:List Arg)(post:List TV->Prop):Prop :=
 ∀ (w:World) (S:Nat->Prop) (cS:List Value),wR w S->aT (zm P w S) args cS ->
  Calls P f cS.toArray w λ e w'=>∃ x S' res,e = .returned x/\post res/\bN (λ _=>False) w w'/\(∀ b,b<w.heap.size->(S' b↔S b))/\(∀ b,S' b->b<w'.heap.size)/\DY w' S' res x
def ET(w:World)(v:TV)(x:Value)(fp:List Nat):Prop :=
 match v with
 | ⟨.st s,y⟩=>∃ cs,x = .agg cs.toArray/\Ow w (s.aR y) cs fp
 | v=>Ow w v.aR [x] fp
def Ln(w:World):List TV->List Value->List Nat->Prop
 | [],[],fp=>fp=[]
 | v::vs,x::xs,fp=>∃ f1 f2,fp=f1++f2/\ET w v x f1/\Ln w vs xs f2
 | _,_,_=>False
def JB(w:World):List TV->Value->List Nat->Prop
 | [v],x,fp=>ET w v x fp
 | vs,x,fp=>∃ l,x = .tuple l.toArray/\Ln w vs l fp
def vG(P:Program)(w:World)(S:Nat->Prop):List Arg->List Value->List Nat->Prop
 | [],[],fp=>fp=[]
 | a::Z9,x::xs,fp=>∃ f1 f2,fp=f1++f2/\(match a with
  | .own v=>ET w v x f1
  | a=>f1=[]/\zm P w S a x)/\vG P w S Z9 xs f2
 | _,_,_=>False
def iI(P:Program)(f:FuncId)(args:List Arg)(res:List TV):Prop :=
 ∀ (w:World) (S:Nat->Prop) (cS:List Value) (fa:List Nat),wR w S->vG P w S args cS fa->(fa=[]\/∀ a∈args,a.La=true)->fa.Nodup->(∀ b∈fa,b<w.heap.size/\¬ S b) ->
  Calls P f cS.toArray w λ e w'=>∃ x fp,e = .returned x/\bN (λ b=>b∈fa) w w'/\JB w' res x fp/\fp.Nodup/\∀ b∈fp,b∈fa\/(w.heap.size<=b/\b<w'.heap.size)
theorem vG.Tm{P:Program}{w:World}{S:Nat->Prop}:∀ {Z9:List Arg} {xs:List Value},aT (zm P w S) Z9 xs->vG P w S Z9 xs []
 | [],[],_=>rfl
 | a::Z9,x::xs,h=>by
  refine⟨[],[],rfl,?_,vG.Tm h.2⟩
  cases a with
  | own v=>exact h.1.elim
  | box k=>exact h.1.elim
  | _=>exact⟨rfl,h.1⟩
 | [],_::_,h=>h.elim
 | _::_,[],h=>h.elim
def VI(P:Program)(f:FuncId)(m:UF):Prop :=
 ∀ (x:m.τ.den) (k:Int) (w:World) (v:Value) (fp:List Nat),(m.g x k).1.ok->O k->Gok w (λ b=>b<w.heap.size/\b∉fp)->ET w ⟨m.τ,x⟩ v fp->fp.Nodup->(∀ b∈fp,b<w.heap.size) ->
  Calls P f #[v, .int .i64 k] w λ e w'=>e = .returned (.int .i64 (m.g x k).2.2)/\O (m.g x k).2.2/\bN (λ b=>b∈fp) w w'/\∃ YW,ET w' ⟨m.τ,(m.g x k).2.1⟩ v YW/\YW.Nodup/\∀ b∈YW,b∈fp\/(w.heap.size<=b/\b<w'.heap.size)
def oF(w:World)(S:Nat->Prop)(B:Nat->Nat):List CK->List TV->List Value->List Nat->Prop
 | [],[],[],fp=>fp=[]
 | .d τ::ks,v::ds,x::xs,fp=>(v.τ=τ/\τ.agg=false/\Rd w S v.aR [x])/\oF w S B ks ds xs fp
 | .o τ::ks,v::ds,x::xs,fp=>∃ f1 f2,fp=f1++f2/\(v.τ=τ/\τ.agg=false/\Ow w v.aR [x] f1)/\oF w S B ks ds xs f2
 | .p j::ks,ds,x::xs,fp=>x = .pointer (some ⟨B j,0,none⟩)/\oF w S B ks ds xs fp
 | _,_,_,_=>False
def ll(w:World)(S:Nat->Prop)(B:Nat->Nat):Nat->List (List CK)->List (List TV)->List Nat->Prop
 | _,[],[],fp=>fp=[]
 | k,ks::sh,ds::ca,fp=>∃ l t f1 f2,fp=f1++f2/\w.heap[B k]?=some (.cells l.toArray t (0,0))/\oF w S B ks ds l f1/\ll w S B (k+1) sh ca f2
 | _,_,_,_=>False
def W1(w:World)(S X:Nat->Prop)(B:Nat->Nat):Arg->Value->Prop
 | .box k,x=>x = .pointer (some ⟨B k,0,none⟩)
 | .val v,x=>fA w S v x
 | .ref v,x=>∃ b o cs,x = .pointer (some ⟨b,o,none⟩)/\b<w.heap.size/\¬ X b/\ct w b o cs/\Rd w S v.aR cs
 | .fn f,x=>x = .func (.func f) #[] #[]
 | .dq _,_=>False
 | .own _,_=>False
def BX(n:Nat)(B:Nat->Nat)(fa:List Nat)(b:Nat):Prop:=b∈fa\/∃ k,k<n/\b=B k
def tu(P:Program)(f:FuncId)(sh:List (List CK))(args:List Arg)(ca:List (List TV))(res:List TV)(gf:List (List TV)):Prop :=
 ∀ (w:World) (S:Nat->Prop) (B:Nat->Nat) (cS:List Value) (fa:List Nat),wR w S->ll w S B 0 sh ca fa->fa.Nodup->(∀ b∈fa,b<w.heap.size/\¬ S b/\∀ k,k<sh.length->B k≠b) ->
  (∀ k,k<sh.length->B k<w.heap.size/\¬ S (B k))->(∀ j k,j<sh.length->k<sh.length->B j=B k->j=k)->aT (W1 w S (BX sh.length B fa) B) args cS ->
  Calls P f cS.toArray w λ e w'=>∃ x S' fp L4,e = .returned x/\bN (BX sh.length B fa) w w'/\(∀ b,S b->S' b)/\(∀ b,S' b->b<w'.heap.size)/\(∀ b,b<w.heap.size->¬ BX sh.length B fa b->(S' b↔S b)) /\
   JB w' res x fp/\ll w' S' B 0 sh gf L4/\(fp++L4).Nodup/\(∀ b∈fp++L4,(b∈fa\/(w.heap.size<=b/\b<w'.heap.size))/\¬ S' b/\∀ k,k<sh.length->B k≠b)/\∀ k,k<sh.length->¬ S' (B k)
theorem bh.ok0{P:Program}{f:FuncId}{args:List Arg}{post:List TV->Prop}(h:bh P f args post):Lm P f args post :=
 λ w S cS hS ha=>h w S cS hS (ha.imp λ _ _ _ hx => .of0 hx)
def a1E(w:World)(S T:Nat->Prop)(x:Value):W3->Prop
 | .box cells=>∃ b l t,x = .pointer (some ⟨b,0,none⟩)/\w.heap[b]?=some (.cells l.toArray t (0,0))/\aT (λ v x=>v.τ.agg=false/\Rd w S v.aR [x]) cells l
 | .row e τ xs=>∃ l,w.ownsRow 0 e τ.size x xs.length l/\fw w S (xs.map τ.aR) l/\xs.length<=140737488355328
 | .res l=>∃ ys,x = .tuple ys.toArray/\aT (λ r x=>match r with
  | (true,v)=>∃ b o cs,x = .pointer (some ⟨b,o,none⟩)/\(S b\/T b)/\ct w b o cs/\Rd w S v.aR cs
  | (false,v)=>fA w S v x) l ys
def Yw(P:Program)(f:FuncId)(args:List Arg)(o:W3):Prop :=
 ∀ (w:World) (S T:Nat->Prop) (cS:List Value),wR w S->(∀ x∈cS,∀ a:Addr,x = .pointer (some a)->T a.block)->aT (zm P w S) args cS ->
  Calls P f cS.toArray w λ e w'=>∃ x S',e = .returned x/\bN (λ _=>False) w w'/\(∀ k,k<w.heap.size->(S' k↔S k))/\(∀ k,S' k->k<w'.heap.size) /\
   (∀ b,eV x=some b->w.heap.size<=b/\b<w'.heap.size/\¬ S' b)/\a1E w' S' T x o
structure bP(P:Program)(E:Env):Prop where
 ty:∀ T τ b e,af E.ty T=some (τ,b,e)->uS P E T τ b e=true
 XZ:∀ T κ ε,af E.XZ T=some (κ,ε)->S5 P E T κ ε=true
 ZF:∀ T τ,af E.ZF T=some τ->True
 N8:∀ f args pre res,E.N8 f args=some (pre,res)->pre.ok->pX P f/\bh P f args (·=res)
 MN:∀ f args pre res,E.MN f args=some (pre,res)->pre.ok->pX P f/\iI P f args res
 mark:∀ f m,E.mark f=some m->pX P f/\VI P f m
 Tb:∀ f args pre o,E.Tb f args=some (pre,o)->pre.ok->pX P f/\Yw P f args o
 Vz:∀ f sk args ca pre res gf,E.sk f=some sk->E.Vz f args ca=some (pre,res,gf)->pre.ok->pX P f/\tu P f sk.sh args ca res gf
section
variable {P:Program} {E:Env} {T:TypeId} {τ:Ty} {b e:Nat}
theorem bP.info(hE:bP P E)(h:af E.ty T=some (τ,b,e)):Info P T τ:=by
 have:=hE.ty _ _ _ _ h
 unfold uS at this
 simp only[a8r] at this
 exact XS this.1
theorem bP.int(hE:bP P E){k:IntKind}(h:af E.ty T=some (.int k,b,e)):P.underlying T=some (.int k):=by
 have:=hE.ty _ _ _ _ h
 unfold uS at this
 simp only[a8r] at this
 have h2:=this.2
 split at h2
 .rename_i k' hk
  rw[hk,a9e h2]
 .cases h2
theorem bP.bool(hE:bP P E)(h:af E.ty T=some (.bool,b,e)):P.underlying T=some .bool:=by
 have:=hE.ty _ _ _ _ h
 unfold uS at this
 simp only[a8r] at this
 have h2:=this.2
 split at h2
 .assumption
 .cases h2
theorem bP.str(hE:bP P E)(h:af E.ty T=some (.str,b,e)):P.underlying T=some .string:=by
 have:=hE.ty _ _ _ _ h
 unfold uS at this
 simp only[a8r] at this
 have h2:=this.2
 split at h2
 .assumption
 .cases h2
theorem bP.slice(hE:bP P E){t:Ty}(h:af E.ty T=some (.slice t,b,e)) :
  P.underlying T=some (.slice e)/\(∃ b' e',af E.ty e=some (t,b',e'))/\(∃ i z,P.info? e=some i/\i.size=t.size/\i.bytes=b/\i.zero=some z/\AK t z=true):=by
 have:=hE.ty _ _ _ _ h
 unfold uS at this
 simp only[a8r] at this
 have h2:=this.2
 split at h2
 .rename_i e' Cb
  simp only[a8r] at h2
  obtain⟨⟨⟨h3,h4⟩,h5⟩,h6⟩:=h2
  have h3:=a8s h3
  subst h3
  split at h4
  .rename_i bo r hl
   have h4:=a9e h4
   subst h4
   obtain⟨i,z,hi,hs,hz,hzo⟩:=(XS h6).ex
   rw[hi] at h5
   exact⟨Cb,⟨_,_,hl⟩,i,z,hi,hs,a8s h5,hz,hzo⟩
  .cases h4
 .cases h2
theorem L5{s:aS}:∀ (n:Nat) (fs:List Field) (ts:List Ty),Hw E s n fs ts=true->fs.length=ts.length /\
  ∀ i f,fs[i]?=some f->∃ t b e,ts[i]?=some t/\af E.ty f.type=some (t,b,e)/\f.offset=s.gq (n+i)
 | _,[],[],_=>⟨rfl,by simp⟩
 | n,f::fs,t::ts,h=>by
  simp only[Hw,a8r] at h
  obtain⟨⟨h1,h2⟩,h3⟩:=h
  obtain⟨h4,h5⟩:=L5 (n+1) fs ts h3
  refine⟨by simp[h4],λ i g hi=>?_⟩
  cases i with
  | zero =>
   simp at hi
   subst hi
   split at h1
   .rename_i τ r hl
    have h1:=a9e h1
    subst h1
    exact⟨_,_,_,rfl,hl,a8s h2⟩
   .cases h1
  | succ i =>
   obtain⟨t',b',e',k1,k2,k3⟩:=h5 i g (by simpa using hi)
   exact⟨t',b',e',by simpa using k1,k2,by rw[k3];congr 1;omega⟩
 | _,[],_::_,h=>by cases h
 | _,_::_,[],h=>by cases h
theorem bP.st(hE:bP P E){s:aS}(h:af E.ty T=some (.st s,b,e)) :
  ∃ fs,P.underlying T=some (.struct fs)/\fs.size=s.ic.length/\∀ i f,fs[i]?=some f->∃ t b e,s.ic[i]?=some t/\af E.ty f.type=some (t,b,e)/\f.offset=s.gq i:=by
 have:=hE.ty _ _ _ _ h
 unfold uS at this
 simp only[a8r] at this
 have h2:=this.2
 split at h2
 .rename_i fs hfs
  obtain⟨h3,h4⟩:=L5 0 _ _ h2
  refine⟨fs,hfs,by simpa using h3,λ i f hi=>?_⟩
  obtain⟨t,b',e',k1,k2,k3⟩:=h4 i f (by simpa using hi)
  exact⟨t,b',e',k1,k2,by simpa using k3⟩
 .cases h2
theorem bP.a2W(hE:bP P E){t:Ty}(h:af E.ty T=some (.mv t,b,e)):False:=by
 have:=hE.ty _ _ _ _ h
 unfold uS at this
 simp at this
theorem bP.ptr(hE:bP P E)(h:af E.ty T=some (.ptr,b,e)):∃ t,P.underlying T=some (.pointer t):=by
 have:=hE.ty _ _ _ _ h
 unfold uS at this
 simp only[a8r] at this
 have h2:=this.2
 split at h2
 .rename_i t ht;exact⟨t,ht⟩
 .cases h2
theorem bP.isAgg(hE:bP P E)(h:af E.ty T=some (τ,b,e))(w:World):(isAgg T).run P w = .ok τ.agg w:=by
 cases τ with
 | int k=>simp[Go.isAgg,a9s (hE.int h)];rfl
 | bool=>simp[Go.isAgg,a9s (hE.bool h)];rfl
 | str=>simp[Go.isAgg,a9s (hE.str h)];rfl
 | slice t=>simp[Go.isAgg,a9s (hE.slice h).1];rfl
 | st s=>obtain⟨fs,h1,_⟩:=hE.st h;simp[Go.isAgg,a9s h1];rfl
 | mv t=>exact (hE.a2W h).elim
 | ptr=>obtain⟨t,ht⟩:=hE.ptr h;simp[Go.isAgg,a9s ht];rfl
theorem bP.sizeOf(hE:bP P E)(h:af E.ty T=some (τ,b,e))(w:World):(sizeOf T).run P w = .ok τ.size w:=by
 obtain⟨i,z,h1,h2,_⟩:=(hE.info h).ex
 simp[Go.sizeOf,typeInfo,h1,h2]
theorem Ty.mP{τ:Ty}(h:τ.agg=false):τ.size=1:=by cases τ<;>first|rfl|cases h
theorem aS.size_pos(s:aS):0<s.size:=by cases s<;>decide
theorem Ty.size_pos(τ:Ty):0<τ.size:=by cases τ<;>first|exact Nat.one_pos|exact aS.size_pos _
def IA(τ:Ty)(cs:List Value):Value :=
 match τ with
 | .st _ => .agg cs.toArray
 | _=>cs.getD 0 undef
theorem pt(hE:bP P E)(h:af E.ty T=some (τ,b,e)){w:World}{bk o:Nat}{cs:List Value}(hc:ct w bk o cs)(hl:cs.length=τ.size) :
  (Instr.loadAt T (.pointer (some ⟨bk,o,none⟩))).run P w = .ok (IA τ cs) w:=by
 have QE:∀ j v,cs[j]?=some v->w.cell? ((⟨bk,o,none⟩:Addr).add j)=some v:=λ j v hj=>by rw[b0p];exact hc j v hj
 simp only[Instr.loadAt,Instr.sureAddr,loadVar,a8Y,a8Z,a8Q,hE.isAgg h]
 cases l8:τ.agg with
 | true =>
  simp only[b0r,a8Y,hE.sizeOf h,a8Q]
  rw[<-hl,run_loadCells_list w _ cs QE]
  cases τ<;>first|rfl|cases l8
 | false =>
  have h1:cs.length=1:=hl.trans (Ty.mP l8)
  match cs,h1 with
  | [v],_ =>
   have:=hc 0 v rfl
   simp only[b0k] at this
   simp[run_load,this]
   cases τ<;>first|rfl|cases l8
end
end Go.Proofs.YtmjfpcajohhbeaaGreatDoor

namespace Go.Proofs.YtmjfpcajohhbeaaGreatDoor
section
variable {c:Ctx} {G:Gh} {lk:Nat->Option aB} {w:World}
theorem C1.iU{v:AV}{x:Value}(h:C1 c G lk w v x):VR c G lk w v x:=by
 cases v with
 | aW v =>
  obtain⟨τ,y⟩:=v
  cases τ with
  | st s=>cases h.1
  | _=>exact h.2
 | agg cs=>exact h.elim
 | kW vs=>exact h.elim
 | dq f cs=>exact h.elim
 | _=>exact h
theorem VR.VE{v:AV}{x:Value}(h:VR c G lk w v x)(hc:v.cell=true):C1 c G lk w v x:=by
 cases v with
 | aW v =>
  obtain⟨τ,y⟩:=v
  cases τ with
  | st s=>cases hc
  | _=>exact⟨rfl,h⟩
 | agg cs=>cases hc
 | kW vs=>cases hc
 | dq f cs=>cases hc
 | any=>cases hc
 | _=>exact h
theorem mI{v:TV}(h:v.τ.agg=false):v.aR.leaf=true:=by
 obtain⟨τ,y⟩:=v
 cases τ<;>first|rfl|exact Oy _ _ _|cases h
theorem C1.leaf{v:AV}{x:Value}(h:C1 c G lk w v x)(hc:v.cell=true):x.oneCell'=true/\x.cells = #[x]:=by
 cases v with
 | any=>cases hc
 | eG=>cases hc
 | agg cs=>cases hc
 | kW cs=>cases hc
 | dq f cs=>cases hc
 | kI v=>cases hc
 | aW v =>
  obtain⟨y,h1,h2⟩:=Rd.vT (mI h.1) h.2
  simp only[a8z,a8F] at h1
  subst h1
  exact⟨Ap h2,MH h2⟩
 | nil=>rw[show x=_ from h];exact⟨rfl,rfl⟩
 | dn v=>obtain⟨b,o,cs,rfl,_⟩:=h;exact⟨rfl,rfl⟩
 | ptr i o=>obtain⟨b,_,rfl,_⟩:=h;exact⟨rfl,rfl⟩
 | row i=>obtain⟨_,_,a,n,m,rfl⟩:=h;exact⟨rfl,rfl⟩
 | aE i=>obtain⟨_,_,_,a,n,m,rfl⟩:=h;exact⟨rfl,rfl⟩
 | sub i k o z=>cases hc
 | fF i k o z=>cases hc
 | eY i k o=>obtain⟨b,n,cap,e,τ,xs,_,_,_,rfl⟩:=h;exact⟨rfl,rfl⟩
 | fn f=>rw[show x=_ from h];exact⟨rfl,rfl⟩
 | mp i=>obtain⟨_,_,b,rfl⟩:=h;exact⟨rfl,rfl⟩
theorem fA.cells{S:Nat->Prop}{v:TV}{x:Value}(h:fA w S v x):Rd w S v.aR x.cells.toList:=by
 obtain⟨τ,y⟩:=v
 cases τ with
 | st s =>
  obtain⟨cs,rfl,h⟩:=h
  show Rd w S (s.aR y) _
  simpa [Value.cells] using h
 | _ =>
  obtain⟨z,h1,h2⟩:=Rd.vT (mI rfl) h
  simp only[a8z,a8F] at h1
  subst h1
  rw[MH h2]
  exact h
theorem fA.mk_{S:Nat->Prop}{v:TV}{cs:List Value}(h:Rd w S v.aR cs):fA w S v (IA v.τ cs):=by
 obtain⟨τ,y⟩:=v
 cases τ with
 | st s=>exact⟨cs,rfl,h⟩
 | _ =>
  obtain⟨z,rfl,h2⟩:=Rd.vT (mI rfl) h
  exact h
def SX(G:Gh)(lk:Nat->Option aB)(b:Nat):Prop:=G.S b\/(∃ id e τ xs,lk id=some (.row e τ xs)/\eV (G.η id)=some b)\/∃ id τ xs,lk id=some (.aE τ xs)/\b∈G.φ id
theorem bz.a0B{c:Ctx}{G:Gh}{sl:Nat->AV}{n:Nat}{lk:Nat->Option aB}{a:Act}{w:World}(h:bz c G sl n lk a w):wR w (SX G lk) :=
 ⟨λ b q=>by
  rcases q with hb|⟨id,e,τ,ys,bf,hb⟩|⟨id,τ,ys,bf,hb⟩
  .exact h.ez b hb
  .exact (h.place id _ b bf hb).2.2
  .exact (h.bc.pl id _ _ b bf hb).2.2.1,h.sOk.2.mono (λ _ q => .inl q) λ _ _=>rfl⟩
theorem SX.of{b:Nat}(h:G.S b):SX G lk b := .inl h
theorem a0x{id:Nat}{e:TypeId}{τ:Ty}{xs:List τ.den}(ho:OR c G lk w id (.row e τ xs))(bf:lk id=some (.row e τ xs)):Rd w (SX G lk) (Ty.aR (.slice τ) xs) [G.η id]:=by
 obtain⟨l,h1,h2,h3⟩:=ho
 rcases h1.2 with ⟨hv,hn⟩|⟨g,cap,cur,hv,_,hh,QG,Y8,oq,htk⟩
 .have hx:xs=[]:=a9E hn
  subst hx
  exact⟨none,0,by simp[hv],by simp,by simp[maxLen],by simp, .inl rfl⟩
 .refine⟨some ⟨g,0,none⟩,cap,by simp[hv],by simpa using QG,Y8,by simpa using h3,?_⟩
  refine .inr ⟨g,0,rfl, .inr (.inl ⟨id,e,τ,xs,bf,by rw[hv];rfl⟩),?_⟩
  refine fw.row _ g 0 (h2.aU (λ _ h=>SX.of h) (λ _ _=>rfl)) λ j v hj=>?_
  have:=h1.cells (g:=g) (by rw[hv];rfl) j v hj
  rw[b0p] at this
  exact this
theorem lA.rd{S:Nat->Prop}{η:Value}{τ:Ty}{xs:List τ.den}{fp:List Nat}(h:lA w η τ xs fp){x:Value}{l:List Value}(hx:η = .tuple (x::l).toArray)(hS:∀ b∈fp,S b):Rd w S (Ty.aR (.slice τ) xs) [x]:=by
 obtain⟨v,l',a,cap,h1,h2,h3,h4,h5,h6⟩:=h
 rw[hx] at h1
 simp only[a9U,b1b,a8z] at h1
 obtain⟨rfl,rfl⟩:=h1
 refine⟨a,cap,by simp[h2],by simpa using h3,h4,by simpa using h5,?_⟩
 rcases h6 with ⟨rfl,_,_⟩|⟨b,f,t,rfl,rfl,k1,_,k2⟩
 .exact .inl rfl
 .exact .inr ⟨b,0,rfl,hS b (by simp),bX.rd _ (p:=[]) (by simpa using k1) k2 λ b hb=>hS b (by simp[hb])⟩
theorem a3s(Fb:JD c G lk w){id:Nat}{τ:Ty}{xs:List τ.den}{x:Value}(bf:lk id=some (.aE τ xs))(hx:C1 c G lk w (.aE id) x):Rd w (SX G lk) (Ty.aR (.slice τ) xs) [x]:=by
 obtain⟨_,l,h2,_⟩:=hx
 exact (Fb.tr id τ xs bf).rd h2 λ b hb => .inr (.inr ⟨id,τ,xs,bf,hb⟩)
theorem a5f(Fb:JD c G lk w)(oM:∀ id o,lk id=some o->OR c G lk w id o){lk':Nat->Option aB}(cG:∀ id o,lk' id=some o->lk id=some o){τ:Ty}{v:AV}{x:Value}{y:τ.den}(h:mS lk' τ v=some y)
  (hv:C1 c G lk w v x):Rd w (SX G lk) (τ.aR y) [x]:=by
 cases v with
 | aW u =>
  have e:=TV.aY h
  subst e
  exact Rd.aU (λ _ h=>SX.of h) (λ _ _=>rfl) _ hv.2
 | nil =>
  cases τ with
  | slice t =>
   simp only[mS,a8o] at h
   subst h
   exact⟨none,0,by rw[show x=_ from hv];rfl,by simp,by simp[maxLen],by simp, .inl rfl⟩
  | _=>cases h
 | row id =>
  simp only[mS] at h
  split at h
  .rename_i e bo xs hl
   have e1:=TV.aY h
   cases e1
   have wY:=cG _ _ hl
   rw[hv.1]
   exact a0x (oM _ _ wY) wY
  .cases h
 | aE id =>
  simp only[mS] at h
  split at h
  .rename_i bo xs hl
   have e1:=TV.aY h
   cases e1
   exact a3s Fb (cG _ _ hl) hv
  .cases h
 | _=>cases h
theorem a3z{lk':Nat->Option aB}(k9:∀ id e τ xs,lk' id≠some (.row e τ xs))(QH:∀ id τ xs,lk' id≠some (.aE τ xs)){τ:Ty}{v:AV}{x:Value}{y:τ.den}(h:mS lk' τ v=some y)(hv:C1 c G lk w v x):Rd w G.S (τ.aR y) [x]:=by
 cases v with
 | aW u =>
  have e:=TV.aY h
  subst e
  exact hv.2
 | nil =>
  cases τ with
  | slice t =>
   simp only[mS,a8o] at h
   subst h
   exact⟨none,0,by rw[show x=_ from hv];rfl,by simp,by simp[maxLen],by simp, .inl rfl⟩
  | _=>cases h
 | row id =>
  simp only[mS] at h
  split at h
  .rename_i hl
   exact absurd hl (k9 _ _ _ _)
  .cases h
 | aE id =>
  simp only[mS] at h
  split at h
  .rename_i hl
   exact absurd hl (QH _ _ _)
  .cases h
 | _=>cases h
theorem Rh{τ:Ty}{v:AV}{x:Value}{y:τ.den}(h:mS (λ _=>none) τ v=some y)(hv:C1 c G lk w v x):Rd w G.S (τ.aR y) [x]:=by
 cases v with
 | aW u =>
  have e:=TV.aY h
  subst e
  exact hv.2
 | nil =>
  cases τ with
  | slice t =>
   simp only[mS,a8o] at h
   subst h
   exact⟨none,0,by rw[show x=_ from hv];rfl,by simp,by simp[maxLen],by simp, .inl rfl⟩
  | _=>cases h
 | _=>cases h
theorem PV{lk':Nat->Option aB}{R:TV->Value->Prop}{Q:AV->Value->Prop}(hR:∀ t v x y,mS lk' t v=some y->Q v x->R ⟨t,y⟩ x):∀ {cs:List AV} {ts:List Ty} {l:List TV} {vs:List Value},RR lk' cs ts=some l->aT Q cs vs->aT R l vs
 | [],[],l,vs,h,k=>by
  simp only[RR,a8o] at h
  subst h
  match vs,k with
  | [],_=>trivial
 | v::cs,t::ts,l,vs,h,k=>by
  simp only[RR] at h
  split at h
  .rename_i x hx
   split at h
   .rename_i r hr
    simp only[a8o] at h
    subst h
    match vs,k with
    | u::us,k=>exact⟨hR _ _ _ _ hx k.1,PV hR hr k.2⟩
   .cases h
  .cases h
 | [],_::_,_,_,h,_=>by cases h
 | _::_,[],_,_,h,_=>by cases h
theorem JE{S:Nat->Prop}{lk':Nat->Option aB}(h1:∀ τ v x (y:τ.den),mS lk' τ v=some y->C1 c G lk w v x->Rd w S (τ.aR y) [x])(hS:∀ b,G.S b->S b)
  {τ:Ty} {v:AV} {x:Value} {y:τ.den} (h:EV lk' τ v=some y) (hv:VR c G lk w v x):fA w S ⟨τ,y⟩ x:=by
 have vN:∀ (Ee:∀ cs,v ≠ .agg cs),mS lk' τ v=some y->fA w S ⟨τ,y⟩ x:=by
  intro Ee ha
  cases v with
  | aW u =>
   have e:=TV.aY ha
   subst e
   exact fA.mono (G:=G) (G':=⟨S,G.η,G.φ⟩) hv hS (λ _ _=>rfl)
  | nil =>
   have:=h1 τ .nil x y ha hv
   cases τ with
   | st s=>cases ha
   | _=>exact this
  | row i =>
   have:=h1 τ (.row i) x y ha hv
   cases τ with
   | st s =>
    simp only[mS] at ha
    split at ha
    .have e:=TV.aY ha
     cases e
    .cases ha
   | _=>exact this
  | aE i =>
   have:=h1 τ (.aE i) x y ha hv
   cases τ with
   | st s =>
    simp only[mS] at ha
    split at ha
    .have e:=TV.aY ha
     cases e
    .cases ha
   | _=>exact this
  | agg cs=>exact absurd rfl (Ee cs)
  | _=>cases ha
 cases v with
 | agg cs =>
  cases τ with
  | st s =>
   simp only[EV] at h
   split at h
   .rename_i l hl
    obtain⟨vs,rfl,A0⟩:=hv
    refine⟨vs,rfl,?_⟩
    rw[aS.cF,aS.qC h]
    exact dB.dR.2 (PV (λ t u z k hk hz=>h1 t u z k hk hz) hl A0)
   .cases h
  | _=>cases h
 | _=>exact vN (by intro cs;simp) h
theorem CZ(Fb:JD c G lk w)(oM:∀ id o,lk id=some o->OR c G lk w id o){lk':Nat->Option aB}(cG:∀ id o,lk' id=some o->lk id=some o){τ:Ty}{v:AV}{x:Value}{y:τ.den}(h:EV lk' τ v=some y)
  (hv:VR c G lk w v x):fA w (SX G lk) ⟨τ,y⟩ x :=
 JE (λ τ v x y h hv=>a5f Fb oM cG h hv) (λ _ h=>SX.of h) h hv
theorem Bx{lk':Nat->Option aB}(k9:∀ id e τ xs,lk' id≠some (.row e τ xs))(QH:∀ id τ xs,lk' id≠some (.aE τ xs)){τ:Ty}{v:AV}{x:Value}{y:τ.den}(h:EV lk' τ v=some y)(hv:VR c G lk w v x):fA w G.S ⟨τ,y⟩ x :=
 JE (λ τ v x y h hv=>a3z k9 QH h hv) (λ _ h=>h) h hv
theorem Lu{τ:Ty}{v:AV}{x:Value}{y:τ.den}(h:EV (λ _=>none) τ v=some y)(hv:VR c G lk w v x):fA w G.S ⟨τ,y⟩ x :=
 JE (λ τ v x y h hv=>Rh h hv) (λ _ h=>h) h hv
theorem AP{τ:Ty}{v:AV}{x:Value}{new:List AV}(h:cellsOf τ v=some new)(hv:VR c G lk w v x) :
  aT (C1 c G lk w) new x.cells.toList/\(∀ u∈x.cells.toList,u.oneCell'=true)/\new.length=τ.size:=by
 have one:v.cell=true->new=[v]->τ.size=1->aT (C1 c G lk w) new x.cells.toList/\(∀ u∈x.cells.toList,u.oneCell'=true)/\new.length=τ.size:=by
  intro hc hn hs
  subst hn
  have h1:=hv.VE hc
  obtain⟨h2,h3⟩:=h1.leaf hc
  rw[h3]
  exact⟨⟨h1,trivial⟩,by simpa using h2,by simp[hs]⟩
 cases τ with
 | st s =>
  simp only[cellsOf] at h
  split at h
  .rename_i u
   split at h
   .rename_i y hy
    simp only[a8o] at h
    subst h
    have e:=TV.aY hy
    subst e
    obtain⟨cs,rfl,hr⟩:=hv
    rw[aS.cF] at hr
    have ha:=dB.dR.1 hr
    refine⟨?_,?_,by simp[Ty.size,aS.kY]⟩
    .simp only[Value.cells]
     refine aT.eO _ (ha.imp λ u z hu hz=>⟨?_,hz⟩)
     have:=aS.r5 s y u hu
     obtain⟨bo,z'⟩:=u
     cases bo with
     | st s'=>simp[TV.aR,Ty.aR,aS.cF,D.leaf] at this
     | _=>rfl
    .simp only[Value.cells]
     intro u hu
     obtain⟨i,hi,hiu⟩:=b0z hu
     have hlen:=ha.length
     obtain⟨b,hb,KI⟩:=ha.at_ i (s.cells y)[i] (a8P (by omega))
     have cD:b=u:=by
      have:cs[i]?=some u:=by rw[a8P hi,hiu]
      rw[this] at hb;exact (b0I hb).symm
     subst cD
     obtain⟨z,h1,h2⟩:=Rd.vT (aS.r5 s y _ (a9M _)) KI
     simp only[a8z,a8F] at h1
     subst h1
     exact Ap h2
   .cases h
  .rename_i cs
   split at h
   .rename_i hb
    simp only[a8o] at h
    subst h
    simp only[a8r] at hb
    obtain⟨l,rfl,hl⟩:=hv
    refine⟨by simpa [Value.cells] using hl,?_,by simpa [Ty.size] using Nat.eq_of_beq_eq_true hb.1⟩
    simp only[Value.cells]
    intro u hu
    obtain⟨i,hi,hiu⟩:=b0z hu
    have hlen:=hl.length
    obtain⟨b,cD,KI⟩:=hl.at_ i cs[i] (a8P (by omega))
    have hbu:b=u:=by
     have:l[i]?=some u:=by rw[a8P hi,hiu]
     rw[this] at cD;exact (b0I cD).symm
    subst hbu
    exact (KI.leaf (a9a.1 hb.2 _ (a9M _))).1
   .cases h
  .cases h
 | int k =>
  simp only[cellsOf] at h
  split at h
  .rename_i hc;simp only[a8o] at h;exact one hc h.symm rfl
  .cases h
 | bool =>
  simp only[cellsOf] at h
  split at h
  .rename_i hc;simp only[a8o] at h;exact one hc h.symm rfl
  .cases h
 | str =>
  simp only[cellsOf] at h
  split at h
  .rename_i hc;simp only[a8o] at h;exact one hc h.symm rfl
  .cases h
 | ptr =>
  simp only[cellsOf] at h
  split at h
  .rename_i hc;simp only[a8o] at h;exact one hc h.symm rfl
  .cases h
 | mv t =>
  simp only[cellsOf] at h
  split at h
  .rename_i hc;simp only[a8o] at h;exact one hc h.symm rfl
  .cases h
 | slice t =>
  simp only[cellsOf] at h
  split at h
  .rename_i hc;simp only[a8o] at h;exact one hc h.symm rfl
  .cases h
theorem F7{cs:List AV}{l:List Value}(hl:aT (C1 c G lk w) cs l){off:Nat}{τ:Ty}{u:AV}(h:Hx cs off τ=some u) :
  VR c G lk w u (IA τ ((l.drop off).take τ.size))/\((l.drop off).take τ.size).length=τ.size/\off+τ.size<=l.length:=by
 have hlen:=hl.length
 have one:τ.size=1->(∀ s,τ ≠ .st s)->cs[off]?=some u->VR c G lk w u (IA τ ((l.drop off).take τ.size))/\((l.drop off).take τ.size).length=τ.size/\off+τ.size<=l.length:=by
  intro hs cw hu
  obtain⟨x,hx,hr⟩:=hl.at_ off u hu
  have bS:off<l.length:=(a9g.1 hx).1
  have he:(l.drop off).take 1=[x]:=by
   rw[b0h bS]
   have:=(a9g.1 hx).2
   simp[this]
  rw[hs,he]
  refine⟨?_,rfl,by omega⟩
  have:IA τ [x]=x:=by cases τ<;>first|rfl|exact absurd rfl (cw _)
  rw[this]
  exact hr.iU
 cases τ with
 | st s =>
  simp only[Hx] at h
  split at h
  .rename_i hb
   simp only[a8o] at h
   subst h
   have hle:=a9u hb
   refine⟨⟨_,rfl,(hl.drop off).take s.size⟩,?_,?_⟩
   .simp only[Ty.size,a8U,a9w];omega
   .simp only[Ty.size];omega
  .cases h
 | int k=>exact one rfl (by intro s;simp) h
 | bool=>exact one rfl (by intro s;simp) h
 | str=>exact one rfl (by intro s;simp) h
 | slice t=>exact one rfl (by intro s;simp) h
 | mv t=>exact one rfl (by intro s;simp) h
 | ptr=>exact one rfl (by intro s;simp) h
theorem ct.part{bk o:Nat}{l:List Value}(h:ct w bk o l)(off n:Nat):ct w bk (o+off) ((l.drop off).take n):=λ j v hj=>by
 rw[a9R] at hj
 split at hj
 .rw[b0l] at hj
  have:=h (off+j) v hj
  rwa [<-b1j] at this
 .cases hj
theorem ct.of_heap{bk:Nat}{l:List Value}{t:TypeId}{fr:Nat×Nat}(h:w.heap[bk]?=some (.cells l.toArray t fr)):ct w bk 0 l:=λ j v hj=>by
 simp only[World.cell?,h,a9Z,Option.isSome_none]
 simpa using hj
theorem ZD{S:Nat->Prop}{v u:TV}{off:Nat}{τ:Ty}(h:v.part off τ=some u){l:List Value}(hl:Rd w S v.aR l) :
  u.τ=τ/\((l.drop off).take τ.size).length=τ.size/\Rd w S u.aR ((l.drop off).take τ.size):=by
 have hlen:=Rd.length _ hl
 rw[show v.aR=v.τ.aR v.x from rfl,Ty.cT] at hlen
 unfold TV.part at h
 split at h
 .rename_i hb
  simp only[a8r] at hb
  simp only[a8o] at h
  subst h
  have h0:=a8s hb.1
  have h1:=a9e hb.2
  subst h0
  subst h1
  rw[b0C,a9d (by omega)]
  exact⟨rfl,hlen,hl⟩
 .split at h
  .rename_i z hz
   split at h
   .rename_i hb
    simp only[a8o] at h
    subst h
    have h1:=a9e hb
    subst h1
    obtain⟨bo,y⟩:=v
    have key:∀ (x:Value),l[off]?=some x->z.τ.agg=false->Rd w S z.aR [x]->z.τ=z.τ/\((l.drop off).take z.τ.size).length=z.τ.size/\Rd w S z.aR ((l.drop off).take z.τ.size):=by
     intro x hx ha hr
     have bS:off<l.length:=(a9g.1 hx).1
     have he:(l.drop off).take 1=[x]:=by
      rw[b0h bS]
      have:=(a9g.1 hx).2
      simp[this]
     rw[Ty.mP ha,he]
     exact⟨rfl,rfl,hr⟩
    cases bo with
    | st s =>
     simp only[TV.cells] at hz
     rw[show TV.aR ⟨.st s,y⟩=s.aR y from rfl,aS.cF] at hl
     obtain⟨x,hx,hr⟩:=(dB.dR.1 hl).at_ off z hz
     refine key x hx ?_ hr
     have:=aS.r5 s y z (a9Q hz)
     obtain⟨a7H,z'⟩:=z
     cases a7H with
     | st s'=>simp[TV.aR,Ty.aR,aS.cF,D.leaf] at this
     | _=>rfl
    | _ =>
     simp only[TV.cells] at hz
     cases off with
     | zero =>
      simp at hz
      subst hz
      obtain⟨x,rfl,_⟩:=Rd.vT (mI rfl) hl
      exact key x rfl rfl hl
     | succ k=>simp at hz
   .cases h
  .cases h
theorem a1l{id:Nat}{e:TypeId}{τ:Ty}{xs:List τ.den}(ho:OR c G lk w id (.row e τ xs)){b n cap:Nat}(iM:G.η id = .slice (some ⟨b,0,none⟩) n cap){i:Nat}(hi:i<xs.length) :
  ∃ cs,cs.length=τ.size/\ct w b (i * τ.size) cs/\Rd w G.S (τ.aR (xs.getD i τ.zero)) cs:=by
 obtain⟨l,h1,h2,h3⟩:=ho
 have cO:∀ d∈xs.map τ.aR,d.size=τ.size:=by
  intro d hd
  obtain⟨y,_,rfl⟩:=a8A.1 hd
  exact Ty.cT τ y
 have hll:=fw.length _ h2 cO
 have Sz:=fw.at_ _ h2 cO i (τ.aR (xs.getD i τ.zero)) (by simp[List.getD,hi])
 have hlen:=Rd.length _ Sz
 rw[Ty.cT] at hlen
 refine⟨_,hlen,?_,Sz⟩
 have hc:ct w b 0 l:=λ j v hj=>by
  have:=h1.cells (g:=b) (by rw[iM];rfl) j v hj
  rwa [b0p] at this
 have:=hc.part (i * τ.size) τ.size
 rwa [a9Z] at this
theorem s5(oM:∀ id o,lk id=some o->OR c G lk w id o){lk':Nat->Option aB}(cG:∀ id o,lk' id=some o->lk id=some o){τ:Ty}{v u:AV}{x:Value}(h:uJ lk' τ v=some u)(hv:VR c G lk w v x) :
  ∃ b o cs,x = .pointer (some ⟨b,o,none⟩)/\ct w b o cs/\cs.length=τ.size/\VR c G lk w u (IA τ cs):=by
 cases v with
 | dn z =>
  simp only[uJ] at h
  split at h
  .rename_i hb
   simp only[a8o] at h
   subst h
   have e:=a9e hb
   subst e
   obtain⟨b,o,cs,h1,h2,h3,h4⟩:=hv
   refine⟨b,o,cs,h1,h3,?_,fA.mk_ h4⟩
   rw[Rd.length _ h4]
   exact Ty.cT _ _
  .cases h
 | ptr id off =>
  simp only[uJ] at h
  split at h
  .rename_i cs hl
   obtain⟨b,h1,h2,h3⟩:=hv
   obtain⟨b',l,t,k1,k2,k3⟩:=oM _ _ (cG _ _ hl)
   rw[h1] at k1
   simp only[b1k,a8o,b0x,a8F] at k1
   subst k1
   obtain⟨m1,m2,m3⟩:=F7 k3 h
   refine⟨b,off,_,h2,?_,m2,m1⟩
   have:=(ct.of_heap k2).part off τ.size
   rwa [a9Z] at this
  .cases h
 | eY id i off =>
  simp only[uJ] at h
  split at h
  .rename_i e bo xs hl
   split at h
   .rename_i z hz
    simp only[a8o] at h
    subst h
    obtain⟨b,n,cap,e1,UD,UC,h1,h2,h3,h4⟩:=hv
    have wY:=cG _ _ hl
    rw[wY] at h2
    simp only[a8o,aB.row.injEq] at h2
    obtain⟨rfl,rfl,h2⟩:=h2
    have h2:=b1Z h2
    subst h2
    obtain⟨cs,m1,m2,m3⟩:=a1l (oM _ _ wY) h1 h3
    obtain⟨p1,p2,p3⟩:=ZD (v:=⟨bo,xs.getD i bo.zero⟩) hz m3
    subst p1
    exact⟨b,_,_,h4,m2.part off _,p2,fA.mk_ p3⟩
   .cases h
  .cases h
 | _=>cases h
end
end Go.Proofs.YtmjfpcajohhbeaaGreatDoor

namespace Go.Proofs.YtmjfpcajohhbeaaGreatDoor
theorem fm{k:IntKind}{n:Int}(h:cr k n):k.min<=n/\n<=k.max:=by
 cases k<;>first
  | exact h
  | (simp only[cr,O] at h;simp only[IntKind.min,IntKind.max,IntKind.signed,IntKind.bits,b0r];exact⟨by omega,by omega⟩)
theorem vF{k:IntKind}{n:Int}(h:k.min<=n/\n<=k.max):k.wrap n=n:=by
 cases k<;>simp[IntKind.min,IntKind.max,IntKind.signed,IntKind.bits] at h<;>simp[IntKind.wrap,IntKind.signed,IntKind.bits]<;>(try split)<;>omega
theorem Uc(n:Int):IntKind.u64.min<=IntKind.u64.wrap n/\IntKind.u64.wrap n<=IntKind.u64.max:=by
 simp[IntKind.min,IntKind.max,IntKind.signed,IntKind.bits,IntKind.wrap];omega
theorem Zz{k:IntKind}{a:Int}(h0:0<=a)(h:k.min<=a/\a<=k.max):a.toNat<2 ^ k.bits:=by
 cases k<;>simp[IntKind.min,IntKind.max,IntKind.signed,IntKind.bits] at h ⊢<;>omega
theorem a0G{k:IntKind}{a b:Int}(ha0:0<=a)(Mt:0<=b)(ha:k.min<=a/\a<=k.max)(hb:k.min<=b/\b<=k.max) :
  k.wrap ((BitVec.ofInt k.bits a &&& BitVec.ofInt k.bits b).toNat:Int)=((a.toNat &&& b.toNat:Nat):Int)/\k.min<=((a.toNat &&& b.toNat:Nat):Int)/\((a.toNat &&& b.toNat:Nat):Int)<=k.max:=by
 have h1:∀ x:Int,0<=x->k.min<=x/\x<=k.max->(BitVec.ofInt k.bits x).toNat=x.toNat:=λ x h0 hx=>by
  obtain⟨n,rfl⟩:=b1v h0
  have:=Zz h0 hx
  simp only[a8E] at this ⊢
  rw[show BitVec.ofInt k.bits (n:Int)=BitVec.ofNat k.bits n from BitVec.ofInt_natCast ..,BitVec.toNat_ofNat]
  exact Nat.mod_eq_of_lt this
 have hle:((a.toNat &&& b.toNat:Nat):Int)<=a:=by
  have := @Nat.and_le_left a.toNat b.toNat
  omega
 have hr:k.min<=((a.toNat &&& b.toNat:Nat):Int)/\((a.toNat &&& b.toNat:Nat):Int)<=k.max:=by
  refine⟨?_,by omega⟩
  have:k.min<=0:=by cases k<;>decide
  omega
 rw[BitVec.toNat_and,h1 a ha0 ha,h1 b Mt hb]
 exact⟨vF hr,hr⟩
theorem RQ{op:BinOp}{k yk:IntKind}{a b r:Int}{p:Vc}(h:arith op k a b=some (p,r))(hp:p.ok)(hk:op = .shl\/op = .shr\/yk=k)(P:Program)(t:TypeId)(w:World) :
  (binOp op t (.int k a) (.int yk b)).run P w = .ok (.int k r) w/\k.min<=r/\r<=k.max:=by
 cases op<;>simp only[arith] at h<;>try cases h
 case add =>
  have hk:yk=k:=by simpa using hk
  subst hk
  split at h<;>simp only[a8o,a8u] at h<;>obtain⟨rfl,rfl⟩:=h
  .exact⟨by simp[binOp_add,Op.intArith],Uc _⟩
  .have:=fm hp
   exact⟨by simp[binOp_add,Op.intArith,vF this],this⟩
 case sub =>
  have hk:yk=k:=by simpa using hk
  subst hk
  have:=fm hp
  exact⟨by simp[binOp_sub,Op.intArith,vF this],this⟩
 case mul =>
  have hk:yk=k:=by simpa using hk
  subst hk
  split at h<;>simp only[a8o,a8u] at h<;>obtain⟨rfl,rfl⟩:=h
  .exact⟨by simp[binOp_mul,Op.intArith],Uc _⟩
  .have:=fm hp
   exact⟨by simp[binOp_mul,Op.intArith,vF this],this⟩
 case quo =>
  have hk:yk=k:=by simpa using hk
  subst hk
  have:=fm hp.2
  exact⟨by simp[binOp_quo,Op.intDiv,hp.1,vF this],this⟩
 case rem =>
  have hk:yk=k:=by simpa using hk
  subst hk
  have:=fm hp.2
  exact⟨by simp[binOp_rem,Op.intDiv,hp.1],this⟩
 case and =>
  have hk:yk=k:=by simpa using hk
  subst hk
  obtain⟨h1,h2⟩:=a0G hp.1 hp.2.1 (fm hp.2.2.1) (fm hp.2.2.2)
  exact⟨by simp only[binOp_and,Op.intBits,a8Z,h1],h2⟩
 case shl =>
  have XM:b<(k.bits:Int):=hp.2.1
  have:=fm hp.2.2
  have hb:min b.toNat k.bits=b.toNat:=by omega
  exact⟨by simp[binOp_shl,Op.shift,Int.not_lt.2 hp.1,hb,vF this],this⟩
 case shr =>
  have XM:b<(k.bits:Int):=hp.2.1
  have:=fm hp.2.2
  have hb:min b.toNat k.bits=b.toNat:=by omega
  exact⟨by simp[binOp_shr,Op.shift,Int.not_lt.2 hp.1,hb],this⟩
theorem W0(k:IntKind)(n:Int):k.min<=k.wrap n/\k.wrap n<=k.max:=by
 cases k<;>simp[IntKind.min,IntKind.max,IntKind.signed,IntKind.bits,IntKind.wrap]<;>omega
theorem W8{wr:Bool}{op:BinOp}{k yk:IntKind}{a b r:Int}{p:Vc}(h:VT wr op k a b=some (p,r))(hp:p.ok)(hk:op = .shl\/op = .shr\/yk=k)(P:Program)(t:TypeId)(w:World) :
  (binOp op t (.int k a) (.int yk b)).run P w = .ok (.int k r) w/\k.min<=r/\r<=k.max:=by
 unfold VT at h
 split at h
 .split at h
  .have hk:yk=k:=by simpa using hk
   subst hk
   simp only[a8o,a8u] at h
   obtain⟨rfl,rfl⟩:=h
   exact⟨by simp[binOp_add,Op.intArith],W0 _ _⟩
  .have hk:yk=k:=by simpa using hk
   subst hk
   simp only[a8o,a8u] at h
   obtain⟨rfl,rfl⟩:=h
   exact⟨by simp[binOp_sub,Op.intArith],W0 _ _⟩
  .have hk:yk=k:=by simpa using hk
   subst hk
   simp only[a8o,a8u] at h
   obtain⟨rfl,rfl⟩:=h
   exact⟨by simp[binOp_mul,Op.intArith],W0 _ _⟩
  .exact RQ h hp hk P t w
 .exact RQ h hp hk P t w
theorem a2e{op:BinOp}{k:IntKind}{a b:Int}{r:Bool}(h:cmp op a b=some r)(P:Program)(t:TypeId)(w:World) :
  (binOp op t (.int k a) (.int k b)).run P w = .ok (.bool r) w:=by
 cases op<;>simp only[cmp,a8o] at h<;>try cases h
 .simp only[binOp_eql,a8Z]
  congr 2
 .simp only[binOp_neq,a8Z]
  congr 2
 .simp[binOp_lss]
 .simp[binOp_leq]
 .simp[binOp_gtr]
 .simp[binOp_geq]
section
variable {c:Ctx} {G:Gh} {lk:Nat->Option aB} {w:World}
theorem UO(a b:ByteArray):(a.toList == b.toList)=decide (a.data.toList=b.data.toList):=by
 rw[b2q,b2q]
 rw[b1A]
 simp
theorem YM(hE:bP c.P c.E){op:BinOp}{T:TypeId}{u v r:AV}{x y:Value}{p:Vc}{wr:Bool}(ox oy:Operand)
  (h:YL (match af c.E.ty T with
   | some (.bool,_)=>true
   | _=>false) wr op u v=some (p,r)) (hp:p.ok) (hu:VR c G lk w u x) (hv:VR c G lk w v y) :
  ∃ z,(do eqGuard op T ox oy x y;binOp op T x y:Sem Value).run c.P w = .ok z w/\VR c G lk w r z:=by
 unfold YL at h
 split at h
 .rename_i k a k' b
  obtain⟨h1,h2⟩:=hu
  obtain⟨h3,h4⟩:=hv
  simp only[a8z,a8F] at h1 h3
  subst h1 h3
  simp only[eqGuard_at_int,a8Y,a8Z,a8Q]
  split at h
  .rename_i p' r' har
   have key:(op = .shl\/op = .shr\/k'=k)->p'.ok->∃ z,(binOp op T (.int k a) (.int k' b)).run c.P w = .ok z w/\VR c G lk w (.aW ⟨.int k,r'⟩) z:=λ hk Wo=>by
    obtain⟨h5,h6⟩:=W8 har Wo hk c.P T w
    exact⟨_,h5,rfl,h6⟩
   split at h
   .simp only[a8o,a8u] at h
    obtain⟨rfl,rfl⟩:=h
    exact key (.inl rfl) hp
   .simp only[a8o,a8u] at h
    obtain⟨rfl,rfl⟩:=h
    exact key (.inr (.inl rfl)) hp
   .split at h
    .rename_i hk
     simp only[a8o,a8u] at h
     obtain⟨rfl,rfl⟩:=h
     exact key (.inr (.inr (a9e hk).symm)) hp
    .cases h
  .split at h
   .rename_i hk
    have hk:=a9e hk
    subst hk
    split at h
    .rename_i cc hc
     simp only[a8o,a8u] at h
     obtain⟨rfl,rfl⟩:=h
     exact⟨_,a2e hc c.P T w,rfl⟩
    .cases h
   .cases h
 .rename_i a b
  have hu:[x]=[.bool a]:=hu
  have hv:[y]=[.bool b]:=hv
  simp only[a8z,a8F] at hu hv
  subst hu hv
  split at h
  .rename_i hT
   split at hT
   .rename_i r' hl
    have hb:=hE.bool hl
    split at h
    .simp only[a8o,a8u] at h
     obtain⟨rfl,rfl⟩:=h
     exact⟨.bool (a == b),by simp[binOp,run_equal_bool w T a b hb,eqGuard_at_bool],rfl⟩
    .simp only[a8o,a8u] at h
     obtain⟨rfl,rfl⟩:=h
     exact⟨.bool !(a == b),by simp[binOp,run_equal_bool w T a b hb,eqGuard_at_bool],rfl⟩
    .cases h
   .cases hT
  .cases h
 .rename_i a b
  obtain⟨s,h1,h2,h3⟩:=hu
  obtain⟨s',h4,h5,h6⟩:=hv
  simp only[a8z,a8F] at h1 h4
  subst h1 h4
  subst h2 h5
  split at h
  .simp only[a8o,a8u] at h
   obtain⟨rfl,rfl⟩:=h
   exact⟨.bool (s.toList == s'.toList),by simp[binOp,Op.stringOp,b1O],by rw[UO];rfl⟩
  .simp only[a8o,a8u] at h
   obtain⟨rfl,rfl⟩:=h
   exact⟨.bool (!(s.toList == s'.toList)),by simp[binOp,Op.stringOp,b1O],by rw[UO];rfl⟩
  .simp only[a8o,a8u] at h
   obtain⟨rfl,rfl⟩:=h
   have cO:s.size+s'.size<=140737488355328:=by
    have:=hp
    simp only[a9v] at this
    exact this
   have hs2:(s++s').size=s.size+s'.size:=ByteArray.size_append
   refine⟨.string (s++s'),?_,s++s',rfl,by simp,by rw[hs2];exact cO⟩
   have:¬ (((s.size+s'.size:Nat):Int)>IntKind.i64.max):=by rw[IntKind.max_i64];omega
   simp only[b1O,a8Y,a8Z,a8Q,binOp,Op.stringOp,a8y this]
  .cases h
 .cases h
theorem nx(hE:bP c.P c.E){T:TypeId}{n:aS}{b e:Nat}(h:af c.E.ty T=some (.st n,b,e)){bk o:Nat}{i:Nat}(hi:i<n.ic.length)(w:World) :
  (Instr.fieldAt T (.pointer (some ⟨bk,o,none⟩)) i).run c.P w = .ok (.pointer (some ⟨bk,o+n.gq i,none⟩)) w:=by
 obtain⟨fs,h1,h2,h3⟩:=hE.st h
 have hf:fs[i]?=some fs[i]:=a9H (by omega)
 obtain⟨t,b',e',h4,h5,h6⟩:=h3 i _ hf
 have cO:=hE.sizeOf h5 w
 have h0:t.size≠0:=Nat.pos_iff_ne_zero.1 t.size_pos
 simp[Instr.fieldAt,a9s h1,hf,Instr.sureAddr,fieldPlace,cO,h0,b0p,h6]
theorem TH(hE:bP c.P c.E){T:TypeId}{n:aS}{b e:Nat}(h:af c.E.ty T=some (.st n,b,e)){l:List Value}{i:Nat}{t:Ty}(hi:n.ic[i]?=some t)
  (hl:n.gq i+t.size<=l.length) (w:World) :
  (Instr.field T (.agg l.toArray) i).run c.P w = .ok (IA t ((l.drop (n.gq i)).take t.size)) w:=by
 obtain⟨fs,h1,h2,h3⟩:=hE.st h
 have bS:i<fs.size:=by have:=(a9g.1 hi).1;omega
 have hf:fs[i]?=some fs[i]:=a9H bS
 obtain⟨t',b',e',h4,h5,h6⟩:=h3 i _ hf
 rw[hi] at h4
 simp only[a8o] at h4
 subst h4
 have cO:=hE.sizeOf h5 w
 have hag:=hE.isAgg h5 w
 simp only[Instr.field,a8Y,a9s h1,a8Q,hf,asAgg,part,hag,a8Z]
 cases l8:t.agg with
 | true =>
  simp only[b0r,a8Y,cO,a8Q,a8Z,h6]
  cases t<;>first|(cases l8;done)|skip
  simp only[IA,Result.ok.injEq,Value.agg.injEq,a8F]
  apply b2i
  simp[List.take_drop]
 | false =>
  have h1:=Ty.mP l8
  simp only[a8w,b1q,h6]
  have hx:l.toArray[n.gq i]?=some (l[n.gq i]'(by omega)):=by rw[List.getElem?_toArray];exact a8P (by omega)
  rw[hx]
  simp only[a8Z,h1]
  have he:(l.drop (n.gq i)).take 1=[l[n.gq i]'(by omega)]:=by
   rw[b0h (by omega),b0A,a9D]
  rw[he]
  cases t<;>first|rfl|cases l8
end
end Go.Proofs.YtmjfpcajohhbeaaGreatDoor

namespace Go.Proofs.YtmjfpcajohhbeaaGreatDoor
section
variable {c:Ctx} {G:Gh} {lk:Nat->Option aB} {w:World}
theorem ZR(k:IntKind):k.min<=0/\0<=k.max:=by cases k<;>decide
theorem Hq{τ:Ty}{v:Value}(h:yU τ v=true):C1 c G lk w (zeroCell τ) v:=by
 unfold yU at h
 split at h
 .simp only[a8r] at h
  have h1:=a9e h.1
  have h2:=a9e h.2
  subst h1 h2
  exact⟨rfl,rfl,ZR _⟩
 .rename_i b
  cases b
  .exact⟨rfl,rfl⟩
  .cases h
 .rename_i s
  exact⟨rfl,s,rfl,List.isEmpty_iff.1 h,by simp[List.isEmpty_iff] at h;simp[ByteArray.size,h]⟩
 .rfl
 .exact⟨rfl,_,rfl⟩
 .cases h
theorem n8{τ:Ty}{z:Value}(h:AK τ z=true):aT (C1 c G lk w) (zeroCells τ) z.cells.toList:=by
 have key:∀ (ts:List Ty) (vs:List Value),NQ ts vs=true->aT (C1 c G lk w) (ts.map zeroCell) vs:=by
  intro ts
  induction ts with
  | nil=>intro vs h;cases vs<;>first|trivial|cases h
  | cons t ts ih =>
   intro vs h
   cases vs with
   | nil=>cases h
   | cons v vs =>
    simp only[NQ,a8r] at h
    exact⟨Hq h.1,ih vs h.2⟩
 have one:∀ v,yU τ v=true->v.cells = #[v]:=by
  intro v hv
  unfold yU at hv
  split at hv<;>first|rfl|cases hv
 unfold AK at h
 split at h
 .rename_i s cs
  exact key _ _ h
 .cases h
 .rename_i bo v h1 h2
  rw[one _ h]
  have:zeroCells τ=[zeroCell τ]:=by
   cases τ<;>first|rfl|(rename_i s;cases v<;>first|exact absurd rfl (h2 s rfl)|cases h)
  rw[this]
  exact⟨Hq h,trivial⟩
theorem NR{S:Nat->Prop}{τ:Ty}{z:Value}(h:AK τ z=true):Rd w S (τ.aR τ.zero) z.cells.toList:=by
 have h1:=n8 (c:=⟨{ funcs := #[],goVersion := "",platform := "",initOrder := "",godebug := "",types := #[],rt:=default,cutTypes := #[],globals := #[],inits := #[],main:=0 },{ ty:=[],ZF:=[],N8:=λ _ _=>none },w,λ _=>True,S,λ _=>none,λ _=>False,λ _=>none⟩) (G:=⟨S,λ _=>undef,λ _=>[]⟩) (lk:=λ _=>none) (w:=w) h
 have cell:∀ t x,C1 ⟨{ funcs := #[],goVersion := "",platform := "",initOrder := "",godebug := "",types := #[],rt:=default,cutTypes := #[],globals := #[],inits := #[],main:=0 },{ ty:=[],ZF:=[],N8:=λ _ _=>none },w,λ _=>True,S,λ _=>none,λ _=>False,λ _=>none⟩ ⟨S,λ _=>undef,λ _=>[]⟩ (λ _=>none) w (zeroCell t) x->Rd w S (t.aR t.zero) [x]:=by
  intro t x hx
  cases t with
  | slice t'=>exact Rh (τ := .slice t') (v := .nil) rfl hx
  | _=>exact hx.2
 cases τ with
 | st s =>
  simp only[zeroCells] at h1
  show Rd w S (s.aR s.zero) _
  rw[aS.cF]
  have hz:(s.cells s.zero).map TV.aR=s.xH.map λ t=>t.aR t.zero:=by cases s<;>rfl
  rw[hz]
  have h2:=aT.of_map _ h1
  have:∀ (ts:List Ty) (vs:List Value),aT (λ t x=>Rd w S (t.aR t.zero) [x]) ts vs->dB w S (ts.map λ t=>t.aR t.zero) vs:=by
   intro ts
   induction ts with
   | nil=>intro vs h;cases vs<;>first|rfl|cases h
   | cons t ts ih =>
    intro vs h
    cases vs with
    | nil=>cases h
    | cons v vs=>exact⟨v,vs,rfl,h.1,ih vs h.2⟩
  exact this _ _ (h2.imp λ t x _ hx=>cell t x hx)
 | _ =>
  simp only[zeroCells] at h1
  match hc:z.cells.toList,h1 with
  | [x],h1=>exact cell _ _ h1.1
theorem Sp(off:Nat):∀ (xs:List Value) (k:Nat) (l:List Value),off+k+xs.length<=l.length ->
  (xs.zipIdx k).foldl (λ cs p=>cs.setIfInBounds (off+p.2) p.1) l.toArray=(l.take (off+k)++xs++l.drop (off+k+xs.length)).toArray
 | [],k,l,_=>by simp
 | x::xs,k,l,h=>by
  simp only[a8C] at h
  simp only[List.zipIdx_cons,b1m]
  have:=Sp off xs (k+1) (l.set (off+k) x) (by simp;omega)
  rw[List.setIfInBounds_toArray,this]
  congr 1
  have e:=list_seg_step l (off+k) x xs (by omega)
  simpa [Nat.add_assoc] using e
theorem Ob(place:Nat->Option (Nat×Nat))(i off size:Nat)(v:Value)(rest:List (Nat×Value))(l:List Value)(hp:place i=some (off,size))(hs:v.cells.size=size)(hl:off+size<=l.length) :
  Instr.fill place l.toArray ((i,v)::rest)=Instr.fill place (l.take off++v.cells.toList++l.drop (off+size)).toArray rest:=by
 have hn:(decide (v.cells.size≠size)||decide (off+v.cells.size>l.toArray.size))=false:=by
  simp[hs];omega
 simp only[Instr.fill,hp,hn,a8w,b1q]
 congr 1
 rw[<-Array.foldl_toList,Array.toList_zipIdx]
 have:=Sp off v.cells.toList 0 l (by simp[hs];omega)
 simp only[b0k,a9v,hs] at this
 exact this
theorem Ju{E:Env}{s:aS}{place:Nat->Option (Nat×Nat)}(hp:∀ i t,s.ic[i]?=some t->place i=some (s.gq i,t.size)) :
  ∀ {ps:List (Nat×AV)} {vs:List (Nat×Value)} {cs dN:List AV} {l:List Value},partsOf E s cs ps=some dN->aT (λ p q=>p.1=q.1/\VR c G lk w p.2 q.2) ps vs->aT (C1 c G lk w) cs l ->
   ∃ l',Instr.fill place l.toArray vs=some l'.toArray/\aT (C1 c G lk w) dN l'
 | [],[],cs,dN,l,h,_,hl=>by
  simp only[partsOf,a8o] at h
  subst h
  exact⟨l,rfl,hl⟩
 | (i,v)::ps,(j,x)::vs,cs,dN,l,h,hv,hl=>by
  obtain⟨⟨Cd,hx⟩,SM⟩:=hv
  have Cd:i=j:=Cd
  subst Cd
  simp only[partsOf] at h
  split at h
  .rename_i τ l8
   split at h
   .rename_i new tE
    split at h
    .rename_i cs1 Cf
     obtain⟨h1,_,h3⟩:=AP tE hx
     have hlen:=h1.length
     have hll:=hl.length
     unfold putCells at Cf
     split at Cf
     .rename_i hb
      have hb:=a9u hb
      simp only[a8o] at Cf
      subst Cf
      have cO:x.cells.size=τ.size:=by rw[<-h3,hlen];simp
      have Cc:s.gq i+τ.size<=l.length:=by omega
      rw[Ob place i _ _ x vs l (hp i τ l8) cO Cc]
      refine Ju hp h SM ?_
      rw[a9r,<-h3]
      exact (hl.take _).append (h1.append (hl.drop _))
     .cases Cf
    .cases h
   .cases h
  .cases h
 | [],_::_,_,_,_,_,hv,_=>hv.elim
 | _::_,[],_,_,_,_,hv,_=>hv.elim
theorem I4{τ:Ty}{place:Nat->Option (Nat×Nat)}(hp:∀ i,place i=some (i * τ.size,τ.size)) :
  ∀ {ps:List (Nat×AV)} {vs:List (Nat×Value)} {n:Nat} {xs:List τ.den} {l:List Value},u5 τ n ps=some xs->aT (λ p q=>p.1=q.1/\VR c G lk w p.2 q.2) ps vs ->
   (n+ps.length) * τ.size=l.length->∃ r,Instr.fill place l.toArray vs=some (l.take (n * τ.size)++r).toArray/\fw w G.S (xs.map τ.aR) r
 | [],[],n,xs,l,h,_,hl=>by
  simp only[u5,a8o] at h
  subst h
  refine⟨[],?_,rfl⟩
  simp only[a8N,b0k] at hl
  rw[hl,b1c,a9N]
  rfl
 | (i,v)::ps,(j,x)::vs,n,xs,l,h,hv,hl=>by
  obtain⟨⟨Cd,hx⟩,SM⟩:=hv
  have Cd:i=j:=Cd
  subst Cd
  simp only[u5] at h
  split at h
  .rename_i gG
   have gG:=a8s gG
   subst gG
   split at h
   .rename_i y hy
    split at h
    .rename_i ys Oo
     simp only[a8o] at h
     subst h
     have hr:=(Lu hy hx).cells
     have cO:x.cells.size=τ.size:=by
      have:=Rd.length _ hr
      rw[show TV.aR ⟨τ,y⟩=τ.aR y from rfl,Ty.cT] at this
      simpa using this
     simp only[a8C] at hl
     have My:=τ.size_pos
     have e1:(i+(ps.length+1)) * τ.size=i * τ.size+τ.size+ps.length * τ.size:=by
      rw[a9C,a9C];omega
     rw[Ob place i _ _ x vs l (hp i) cO (by omega)]
     obtain⟨r,h1,h2⟩:=I4 hp (l:=l.take (i * τ.size)++x.cells.toList++l.drop (i * τ.size+τ.size)) Oo SM (by
      simp[cO]
      rw[show (i+1+ps.length) * τ.size=i * τ.size+τ.size+ps.length * τ.size by rw[a9C,a9C];omega]
      omega)
     refine⟨x.cells.toList++r,?_,_,_,rfl,hr,h2⟩
     rw[h1]
     congr 2
     rw[show (i+1) * τ.size=i * τ.size+τ.size by rw[a9C];omega]
     have ht:(l.take (i * τ.size)++x.cells.toList).length=i * τ.size+τ.size:=by simp[cO];omega
     rw[<-ht,b0D,a9r]
    .cases h
   .cases h
  .cases h
 | [],_::_,_,_,_,_,hv,_=>hv.elim
 | _::_,[],_,_,_,_,hv,_=>hv.elim
theorem Ec{τ:Ty}:∀ {ps:List (Nat×AV)} {n:Nat} {xs:List τ.den},u5 τ n ps=some xs->xs.length=ps.length
 | [],n,xs,h=>by
  simp only[u5,a8o] at h
  subst h;rfl
 | (i,v)::ps,n,xs,h=>by
  simp only[u5] at h
  split at h
  .split at h
   .split at h
    .rename_i ys Oo
     simp only[a8o] at h
     subst h
     simp[Ec Oo]
    .cases h
   .cases h
  .cases h
theorem EO(z:Array Value)(k:Nat):(madeCells z ((k+1) * z.size)).toList=(madeCells z (k * z.size)).toList++z.toList:=by
 apply b1M
 intro j
 have e:(k+1) * z.size=k * z.size+z.size:=by rw[a9C];omega
 by_cases h1:j<k * z.size
 .rw[b0s (by simp[madeCells];exact h1)]
  have h2:j<(k+1) * z.size:=by omega
  simp[madeCells,h1,h2]
 .by_cases h2:j<(k+1) * z.size
  .rw[b0e (by simp[madeCells];omega)]
   have h3:j - k * z.size<z.size:=by omega
   have hm:j % z.size=j - k * z.size:=by
    have h4:(j - k * z.size+z.size * k) % z.size=j - k * z.size:=by rw[Nat.add_mul_mod_self_left,Nat.mod_eq_of_lt h3]
    rwa [Nat.mul_comm z.size k,Nat.sub_add_cancel (Nat.le_of_not_lt h1)] at h4
   simp[madeCells,h2,hm,h3]
  .rw[b0e (by simp[madeCells];omega)]
   have h3:¬ j - k * z.size<z.size:=by omega
   simp[madeCells,h2]
   omega
theorem Jo{S:Nat->Prop}{d:D}{z:Array Value}(h:Rd w S d z.toList):∀ k:Nat,fw w S (List.replicate k d) (madeCells z (k * z.size)).toList
 | 0=>by simp[madeCells,fw,Array.range_zero']
 | k+1=>by
  rw[EO,b1d]
  exact fw.append _ _ (Jo h k) ⟨z.toList,[],by simp,h,rfl⟩
theorem EP(z:Array Value)(n m:Nat)(h:n<=m):(madeCells z m).toList.take n=(madeCells z n).toList:=by
 apply b1M
 intro j
 rw[a9R]
 by_cases hj:j<n
 .have:j<m:=by omega
  simp[madeCells,hj,this]
 .simp[madeCells,hj]
end
end Go.Proofs.YtmjfpcajohhbeaaGreatDoor

namespace Go.Proofs.YtmjfpcajohhbeaaGreatDoor
def LV(d:Option Nat)(v:AV):aB->Prop
 | .box _=>∃ i,d=some i/\v = .ptr i 0
 | .row .. => ∃ i,d=some i/\v = .row i
 | .aE .. => False
 | .map .. => ∃ i,d=some i/\v = .mp i
def ZT(c:Ctx)(G:Gh)(lk:Nat->Option aB)(w:World)(x:Value):aB->Prop
 | .box cs=>∃ b l t,x = .pointer (some ⟨b,0,none⟩)/\w.heap[b]?=some (.cells l.toArray t (0,0))/\aT (C1 c G lk w) cs l
 | .row e τ xs=>∃ l,w.ownsRow 0 e τ.size x xs.length l/\fw w G.S (xs.map τ.aR) l/\xs.length<=140737488355328
 | .aE .. => False
 | .map m=>∃ b es clock,x = .map (some b)/\w.heap[b]?=some (.map es clock)/\Ll m es
def zn(c:Ctx)(G:Gh)(sl:Nat->AV)(n:Nat)(lk:Nat->Option aB)(d:Option Nat)(a:Act)(w:World)(v:AV)(ob:Option aB)(a':Act)(w':World):Prop :=
 ∃ x S',a'=a.put d x/\bz c ⟨S',G.η,G.φ⟩ sl n lk a w' /\
  match ob with
  | none=>VR c ⟨S',G.η,G.φ⟩ lk w' v x
  | some o=>LV d v o/\ZT c ⟨S',G.η,G.φ⟩ lk w' x o/\∀ b,eV x=some b->w.heap.size<=b/\b<w'.heap.size/\¬ S' b
section
variable {c:Ctx} {G:Gh} {sl:Nat->AV} {n:Nat} {lk:Nat->Option aB} {a:Act} {w w':World}
theorem bz.grow(h:bz c G sl n lk a w)(hk:bN (λ _=>False) w w'){S':Nat->Prop}(hS:∀ b,b<w.heap.size->(S' b↔G.S b))(hLt:∀ b,S' b->b<w'.heap.size):bz c ⟨S',G.η,G.φ⟩ sl n lk a w':=by
 refine h.world ⟨hk.os,hk.tape,hk.output,hk.size,λ b hb _=>hk.block b hb (λ h=>h)⟩ (λ b hb=>(hS b (h.ez b hb)).2 hb) hS (λ b hb=>?_) hLt (λ b hb=>?_) (λ id o b ho hb=>?_) (λ id τ xs b ht hb=>hk.block b (h.bc.pl id τ xs b ht hb).2.2.1 (λ h=>h))
 .have h1:=h.sX b hb
  exact (hS b (h.ez b h1)).2 h1
 .refine hk.block b ?_ (λ h=>h)
  rcases hb with hb|hb
  .exact h.ez b hb
  .exact a8G hb.1 h.aU.size
 .exact hk.block b (h.place id o b ho hb).2.2 (λ h=>h)
theorem iN(w:World)(o:Obj):bN (λ _=>False) w (w.alloc o):=⟨rfl,rfl,rfl,by simp,λ b hb _=>RowKit.Below.heap_alloc w o b hb⟩
theorem bz.alloc(h:bz c G sl n lk a w)(o:Obj):bz c G sl n lk a (w.alloc o) :=
 h.grow (S':=G.S) (iN w o) (λ _ _=>b0w) (λ b hb=>by have:=h.ez b hb;simp;omega)
theorem bz.WS(h:bz c G sl n lk a w)(hk:bN (λ _=>False) w w')(b:Nat)(hb:St c G.S b):w'.heap[b]?=w.heap[b]?:=by
 refine hk.block b ?_ (λ h=>h)
 rcases hb with hb|hb
 .exact h.ez b hb
 .exact a8G hb.1 h.aU.size
theorem bz.a5q(h:bz c G sl n lk a w)(hk:bN (λ _=>False) w w'){v:AV}{x:Value}(hv:C1 c G lk w v x):C1 c G lk w' v x :=
 hv.mono (λ _ _=>⟨fb.refl _,rfl⟩) (λ _ h=>h) (h.WS hk)
theorem cI{o:Oper}{v:AV}{x:Value}{Q:Exit->Act->World->Prop}(hI:bz c G sl n lk a w)(hr:(execOp a.eval o).run c.P w = .ok (.value x) w)(hv:VR c G lk w v x) :
  o.wp c.P a w (zn c G sl n lk o.dst a w v none) Q:=by
 unfold Oper.wp
 rw[hr]
 exact⟨x,G.S,rfl,hI,hv⟩
theorem B3{o:Oper}{v:AV}{ob:aB}{x:Value}{Q:Exit->Act->World->Prop}(hI0:bz c G sl n lk a w)(hr:(execOp a.eval o).run c.P w = .ok (.value x) w')(hI:bz c G sl n lk a w')
  (hL:LV o.dst v ob) (hN:ZT c G lk w' x ob) (hb:∀ b,eV x=some b->w.heap.size<=b/\b<w'.heap.size) :
  o.wp c.P a w (zn c G sl n lk o.dst a w v (some ob)) Q:=by
 unfold Oper.wp
 rw[hr]
 exact⟨x,G.S,rfl,hI,hL,hN,λ b h=>⟨(hb b h).1,(hb b h).2,λ hs=>by have:=hI0.ez b hs;have:=(hb b h).1;omega⟩⟩
theorem Vp{e:TypeId}{τ:Ty}{xs:List τ.den}{x:Value}{l:List Value}{S S':Nat->Prop}(h1:w.ownsRow 0 e τ.size x xs.length l)(h2:fw w S (xs.map τ.aR) l)(h3:xs.length<=140737488355328)(hS:∀ b,S b->S' b)(hb:∀ b,eV x=some b->S' b) :
  Rd w S' (Ty.aR (.slice τ) xs) [x]:=by
 rcases h1.2 with ⟨hv,hn⟩|⟨g,cap,cur,hv,_,hh,QG,Y8,oq,htk⟩
 .have hx:xs=[]:=a9E hn
  subst hx
  exact⟨none,0,by simp[hv],by simp,by simp[maxLen],by simp, .inl rfl⟩
 .refine⟨some ⟨g,0,none⟩,cap,by simp[hv],by simpa using QG,Y8,by simpa using h3,?_⟩
  refine .inr ⟨g,0,rfl,hb g (by rw[hv];rfl),?_⟩
  refine fw.row _ g 0 (h2.aU hS (λ _ _=>rfl)) λ j v hj=>?_
  have:=h1.cells (g:=g) (by rw[hv];rfl) j v hj
  rw[b0p] at this
  exact this
theorem a0M{o:Oper}{τ:Ty}{xs:List τ.den}{e:TypeId}{x:Value}{l:List Value}{Q:Exit->Act->World->Prop}(hI:bz c G sl n lk a w)(hr:(execOp a.eval o).run c.P w = .ok (.value x) w')(hk:bN (λ _=>False) w w')
  (h1:w'.ownsRow 0 e τ.size x xs.length l) (h2:fw w' G.S (xs.map τ.aR) l) (h3:xs.length<=140737488355328) (hb:∀ b,eV x=some b->w.heap.size<=b/\b<w'.heap.size) :
  o.wp c.P a w (zn c G sl n lk o.dst a w (.aW ⟨.slice τ,xs⟩) none) Q:=by
 unfold Oper.wp
 rw[hr]
 refine⟨x,λ b=>G.S b\/eV x=some b,rfl,hI.grow hk (λ b cD=>⟨λ q=>q.elim id λ q=>absurd (hb b q).1 (by omega), .inl⟩) λ b q=>q.elim (λ q=>a8G (hI.ez b q) hk.size) λ q=>(hb b q).2,?_⟩
 exact Vp h1 h2 h3 (λ _ q => .inl q) (λ _ q => .inr q)
theorem P5{v:TV}(h:v.flat=true){S S':Nat->Prop}{w w':World}{cs:List Value}(hr:Rd w S v.aR cs):Rd w' S' v.aR cs:=by
 have one:∀ u:TV,u.τ.agg=false->(match u.τ with | .slice _=>false | .mv _=>false|_=>true)=true->∀ cs,Rd w S u.aR cs->Rd w' S' u.aR cs:=by
  intro u h1 h2 cs h3
  obtain⟨τ,y⟩:=u
  cases τ<;>first|exact h3|(cases h1;done)|(simp at h2;done)
 obtain⟨τ,y⟩:=v
 cases τ with
 | st s =>
  rw[show TV.aR ⟨.st s,y⟩=s.aR y from rfl,aS.cF] at hr ⊢
  refine dB.dR.2 ((dB.dR.1 hr).imp λ u x hu hx=>?_)
  refine one u ?_ (a9a.1 h u hu) _ hx
  have:=aS.r5 s y u hu
  obtain⟨bo,z⟩:=u
  cases bo with
  | st s'=>simp[TV.aR,Ty.aR,aS.cF,D.leaf] at this
  | _=>rfl
 | slice t=>simp[TV.flat,TV.cells] at h
 | mv t=>simp[TV.flat,TV.cells] at h
 | ptr=>exact hr
 | int k=>exact hr
 | bool=>exact hr
 | str=>exact hr
theorem So{v:TV}(h:v.flat=true){S S':Nat->Prop}{w w':World}{x:Value}(hr:fA w S v x):fA w' S' v x:=by
 obtain⟨τ,y⟩:=v
 cases τ with
 | st s =>
  obtain⟨cs,h1,h2⟩:=hr
  exact⟨cs,h1,P5 (v:=⟨.st s,y⟩) h h2⟩
 | _=>exact P5 (v:=⟨_,y⟩) (w:=w) (w':=w') (S:=S) (S':=S') h hr
theorem DD{lk':Nat->Option aB}(cG:∀ id o,lk' id=some o->lk id=some o):∀ id o,uN lk' id=some o->lk id=some o:=by
 intro id o h
 unfold uN at h
 split at h
 .rename_i cs hc
  simp only[a8o] at h
  subst h
  exact cG _ _ hc
 .cases h
theorem DE{lk':Nat->Option aB}:∀ id e τ xs,uN lk' id≠some (.row e τ xs):=by
 intro id e τ xs h
 unfold uN at h
 split at h<;>simp at h
theorem Ay{lk':Nat->Option aB}:∀ id τ xs,uN lk' id≠some (.aE τ xs):=by
 intro id τ xs h
 unfold uN at h
 split at h<;>simp at h
theorem Zx{τ:Ty}{cs:List Value}{x:τ.den}{S:Nat->Prop}(h:fA w S ⟨τ,x⟩ (IA τ cs))(hl:cs.length=τ.size):Rd w S (τ.aR x) cs:=by
 cases τ with
 | st s =>
  obtain⟨dN,h1,h2⟩:=h
  simp only[IA,Value.agg.injEq] at h1
  have:cs=dN:=by have:=congrArg Array.toList h1;simpa using this
  subst this
  exact h2
 | _ =>
  match cs,hl with
  | [v],_=>exact h
theorem CR.iU{v:AV}{x:Value}(h:CR c G lk w v x):VR c G lk w v x:=by
 cases v with
 | aW v=>exact h
 | agg cs=>exact h
 | any=>trivial
 | eG=>exact h
 | kW _=>exact h.elim
 | dq _ _=>exact h.elim
 | nil=>exact h
 | dn v=>exact h
 | ptr i o=>exact h
 | row i=>exact h
 | eY i k o=>exact h
 | fn f=>exact h
 | aE i=>exact h
 | sub i k o z=>exact h
 | fF i k o z=>exact h
 | kI v=>exact h
 | mp i=>exact h
theorem C1.Yr{v:AV}{x:Value}(h:C1 c G lk w v x):CR c G lk w v x:=by
 cases v with
 | aW v=>exact C1.iU (v := .aW v) h
 | agg cs=>exact h.elim
 | kW cs=>exact h.elim
 | dq f cs=>exact h.elim
 | _=>exact h
theorem CR.inv{v:AV}{x:Value}(h:CR c G lk w v x):(∃ u,v = .aW u/\fA w G.S u x)\/(∃ cs l,v = .agg cs/\x = .agg l.toArray/\aT (C1 c G lk w) cs l)\/C1 c G lk w v x:=by
 cases v with
 | aW v=>exact .inl ⟨v,rfl,h⟩
 | agg cs =>
  obtain⟨l,h1,h2⟩:=h
  exact .inr (.inl ⟨cs,l,rfl,h1,h2⟩)
 | _=>exact .inr (.inr h)
theorem VR.Yr{v:AV}{x:Value}(h:VR c G lk w v x)(hc:v.a2b=true):CR c G lk w v x:=by
 cases v with
 | kW _=>cases hc
 | dq _ _=>cases hc
 | eG=>cases hc
 | kI _=>cases hc
 | _=>exact h
theorem FX{S:Nat->Prop}{lk':Nat->Option aB}(hI:bz c G sl n lk a w)(cG:∀ id o,lk' id=some o->lk id=some o)
  (ru:∀ (τ:Ty) v x (y:τ.den),EV lk' τ v=some y->VR c G lk w v x->fA w S ⟨τ,y⟩ x) {τ:Ty} {v:AV} {x:Value} {y:τ.den} (hy:deref lk' τ v=some y) (hx:VR c G lk w v x):Jz w S (.ref ⟨τ,y⟩) x:=by
 unfold deref at hy
 split at hy
 .rename_i u hu
  obtain⟨b,o,cs,h1,h2,h3,h4⟩:=s5 hI.aK cG hu hx
  have h5:=Zx (ru _ _ _ _ hy h4) h3
  have My:=τ.size_pos
  have hc0:=h2 0 (cs[0]'(by omega)) (a8P (by omega))
  exact⟨b,o,cs,h1,World.block_lt_of_cell? w _ hc0,h2,h5⟩
 .cases hy
theorem Dc{S:Nat->Prop}{lk':Nat->Option aB}(hI:bz c G sl n lk a w)(cG:∀ id o,lk' id=some o->lk id=some o)
  (ru:∀ (τ:Ty) v x (y:τ.den),EV lk' τ v=some y->VR c G lk w v x->fA w S ⟨τ,y⟩ x) :
  ∀ {ks:List (Bool×Ty)} {vs:List AV} {Z9:List Arg} {xs:List Value},Db lk' ks vs=some Z9->aT (CR c G lk w) vs xs->aT (Jz w S) Z9 xs
 | [],[],Z9,xs,h,hv=>by
  simp only[Db,a8o] at h
  subst h
  match xs,hv with
  | [],_=>trivial
 | (true,τ)::ks,v::vs,Z9,xs,h,hv=>by
  simp only[Db] at h
  split at h
  .rename_i y hy
   split at h
   .rename_i r hr
    simp only[a8o] at h
    subst h
    match xs,hv with
    | x::xs,hv=>exact⟨FX hI cG ru hy hv.1.iU,Dc hI cG ru hr hv.2⟩
   .cases h
  .cases h
 | (false,τ)::ks,v::vs,Z9,xs,h,hv=>by
  simp only[Db] at h
  split at h
  .rename_i y hy
   split at h
   .rename_i r hr
    simp only[a8o] at h
    subst h
    match xs,hv with
    | x::xs,hv=>exact⟨ru _ _ _ _ hy hv.1.iU,Dc hI cG ru hr hv.2⟩
   .cases h
  .cases h
 | [],_::_,_,_,h,_=>by cases h
 | (true,_)::_,[],_,_,h,_=>by cases h
 | (false,_)::_,[],_,_,h,_=>by cases h
theorem J5(hE:bP c.P c.E){f:FuncId}{iD:List Arg}:∀ (ps:List Ty) (r:Ty) (acc:List Arg),Hr c.P f iD ps r (R7 c.E f iD ps r acc) acc
 | [],r,acc=>by
  show (R7 c.E f iD [] r acc).1->_
  intro hp
  generalize hF:R7 c.E f iD [] r acc=F at hp ⊢
  rw[R7] at hF
  split at hF
  .rename_i pre v hc
   split at hF
   .rename_i y hy
    subst hF
    have:=TV.aY hy
    subst this
    obtain⟨h1,h2⟩:=hE.N8 f _ _ _ hc hp
    exact⟨h1,h2.ok0⟩
   .subst hF
    exact hp.elim
  .subst hF
   exact hp.elim
 | t::ts,r,acc=>λ x=>J5 hE ts r (acc++[.val ⟨t,x⟩])
theorem PT{P:Program}{f:FuncId}{iD:List Arg}:∀ {ps:List Ty} {r:Ty} {F:FN ps r} {acc Z9:List Arg} {p:Prop} {y:r.den},Hr P f iD ps r F acc->vI ps r F Z9=some (p,y)->p ->
  (pX P f/\Lm P f (acc++Z9++iD) (·=[⟨r,y⟩]))/\∀ z∈Z9,∃ v,z = .val v
 | [],r,F,acc,[],p,y,h,e,hp=>by
  simp only[vI,a8o] at e
  have h':F.1->pX P f/\Lm P f (acc++iD) (·=[⟨r,F.2⟩]):=h
  rw[e] at h'
  refine⟨by simpa using h' hp,by simp⟩
 | t::ts,r,F,acc, .val z::zs,p,y,h,e,hp=>by
  simp only[vI] at e
  split at e
  .rename_i x hx
   have h':∀ x,Hr P f iD ts r (F x) (acc++[.val ⟨t,x⟩]):=h
   obtain⟨h1,h2⟩:=PT (h' x) e hp
   have:=TV.aY hx
   subst this
   refine⟨by simpa using h1,λ z hz=>?_⟩
   rcases a8I.1 hz with rfl|hz
   .exact⟨_,rfl⟩
   .exact h2 z hz
  .cases e
 | [],_,_,_,_::_,_,_,_,e,_=>by simp[vI] at e
 | _::_,_,_,_,[],_,_,_,e,_=>by simp[vI] at e
 | _::_,_,_,_, .ref _::_,_,_,_,e,_=>by simp[vI] at e
 | _::_,_,_,_, .fn _::_,_,_,_,e,_=>by simp[vI] at e
 | _::_,_,_,_, .dq _::_,_,_,_,e,_=>by simp[vI] at e
theorem Df(hE:bP c.P c.E){S:Nat->Prop}{lk':Nat->Option aB}(hI:bz c G sl n lk a w)(cG:∀ id o,lk' id=some o->lk id=some o)(hSS:∀ b,G.S b->S b)
  (ru:∀ (τ:Ty) v x (y:τ.den),EV lk' τ v=some y->VR c G lk w v x->fA w S ⟨τ,y⟩ x) {g:AV} {x:Value} {q:FV} (h:LY c.E lk' g=some q) (hx:VR c G lk w g x):zm c.P w S (.dq q) x:=by
 unfold LY at h
 split at h
 .rename_i f cs
  split at h
  .rename_i k _
   split at h
   .rename_i Z9 has
    simp only[a8o] at h
    subst h
    obtain⟨l,h1,h2⟩:=hx
    exact⟨f,Z9,l,h1,J5 hE _ _ _,Dc hI cG ru has h2⟩
   .cases h
  .cases h
 .simp only[a8o] at h
  subst h
  obtain⟨f,iD,l,h1,h2,h3⟩:=hx
  refine⟨f,iD,l,h1,h2,h3.imp λ u y _ hy=>?_⟩
  cases u with
  | val v=>exact fA.mono (G:=G) (G':=⟨S,G.η,G.φ⟩) hy hSS (λ _ _=>rfl)
  | ref v =>
   obtain⟨b,o,cs,k1,k2,k3,k4⟩:=hy
   refine⟨b,o,cs,k1,?_,k3,Rd.aU hSS (λ _ _=>rfl) _ k4⟩
   exact k2.elim (hI.ez b) λ k=>a8G k.1 hI.aU.size
  | fn f=>exact hy
  | dq v=>exact hy.elim
  | own v=>exact hy.elim
  | box k=>exact hy.elim
 .rename_i f
  split at h
  .rename_i k _
   split at h
   .simp only[a8o] at h
    subst h
    exact⟨f,[],[],hx,J5 hE _ _ _,trivial⟩
   .cases h
  .cases h
 .cases h
theorem kE(hE:bP c.P c.E){S:Nat->Prop}{lk':Nat->Option aB}(hI:bz c G sl n lk a w)(cG:∀ id o,lk' id=some o->lk id=some o)(hSS:∀ b,G.S b->S b)
  (ru:∀ (τ:Ty) v x (y:τ.den),EV lk' τ v=some y->VR c G lk w v x->fA w S ⟨τ,y⟩ x) :
  ∀ {Ts:List TypeId} {vs:List AV} {Z9:List Arg} {xs:List Value},px c.E lk' Ts vs=some Z9->aT (VR c G lk w) vs xs->aT (zm c.P w S) Z9 xs
 | [],[],Z9,xs,h,hv=>by
  simp only[px,a8o] at h
  subst h
  match xs,hv with
  | [],_=>trivial
 | T::Ts,v::vs,Z9,xs,h,hv=>by
  simp only[px] at h
  split at h
  .rename_i p hp
   split at h
   .rename_i r hr
    simp only[a8o] at h
    subst h
    match xs,hv with
    | x::xs,hv =>
     refine⟨?_,kE hE hI cG hSS ru hr hv.2⟩
     have hx:=hv.1
     unfold RP at hp
     split at hp
     .split at hp
      .rename_i y hy
       simp only[a8o] at hp
       subst hp
       exact ru _ _ _ _ hy hx
      .cases hp
     .split at hp
      .rename_i τ _
       split at hp
       .rename_i y hy
        simp only[a8o] at hp
        subst hp
        exact FX hI cG ru hy hx
       .cases hp
      .split at hp
       .rename_i q hq
        simp only[a8o] at hp
        subst hp
        exact Df hE hI cG hSS ru hq hx
       .split at hp
        .simp only[a8o] at hp
         subst hp
         exact hx
        .cases hp
   .cases h
  .cases h
 | [],_::_,_,_,h,_=>by cases h
 | _::_,[],_,_,h,_=>by cases h
theorem AD{S:Nat->Prop}{res:List TV}{x:Value}(h:DY w S res x){η:Nat->Value}{φ:Nat->List Nat}:VR c ⟨S,η,φ⟩ lk w (DM res) x:=by
 match res,h with
 | [v],h=>exact h
 | [],h =>
  obtain⟨l,h1,h2⟩:=h
  exact⟨l,h1,aT.eO _ h2⟩
 | v::u::r,h =>
  obtain⟨l,h1,h2⟩:=h
  exact⟨l,h1,aT.eO _ h2⟩
theorem U5{S S':Nat->Prop}{res:List TV}{x:Value}(hf:res.all TV.flat=true)(h:DY w S res x):DY w S' res x:=by
 have nB:∀ v∈res,v.flat=true:=a9a.1 hf
 match res,h,nB with
 | [v],h,nB=>exact So (nB v (by simp)) h
 | [],h,nB =>
  obtain⟨l,h1,h2⟩:=h
  exact⟨l,h1,h2.imp λ v y hv hy=>So (nB v hv) hy⟩
 | v::u::r,h,nB =>
  obtain⟨l,h1,h2⟩:=h
  exact⟨l,h1,h2.imp λ v y hv hy=>So (nB v hv) hy⟩
theorem P0(hE:bP c.P c.E)(hI:bz c G sl n lk a w){lk':Nat->Option aB}(cG:∀ id o,lk' id=some o->lk id=some o){o:Oper}{f:FuncId}{Ts:List TypeId}{vs:List AV}{xs:List Value}
  {vc:Vc} {v:AV} {ob:Option aB} (hq:Hs c.E lk' f Ts vs=some (vc,v,ob)) (fk:vc.ok) (ot:aT (VR c G lk w) vs xs)
  (cZ:pX c.P f->(execOp a.eval o).run c.P w = .ok (.enter f xs.toArray) w) {Q:Exit->Act->World->Prop}:o.wp c.P a w (zn c G sl n lk o.dst a w v ob) Q:=by
 have fin:∀ (S:Nat->Prop) (Z9:List Arg) (pre:Vc) (res:List TV),c.E.N8 f Z9=some (pre,res)->pre.ok->aT (zm c.P w S) Z9 xs->wR w S ->
   (∀ S' w' x,bN (λ _=>False) w w'->(∀ b,b<w.heap.size->(S' b↔S b))->(∀ b,S' b->b<w'.heap.size)->DY w' S' res x->zn c G sl n lk o.dst a w (DM res) none (a.put o.dst x) w') ->
   o.wp c.P a w (zn c G sl n lk o.dst a w (DM res) none) Q:=by
  intro S Z9 pre res hc SI has bS KE
  obtain⟨vO,rp⟩:=hE.N8 f Z9 pre res hc SI
  unfold Oper.wp
  rw[cZ vO]
  simp only[Oper.upon]
  refine (rp w S xs bS has).mono ?_
  rintro e w' ⟨x,S',a7t,rfl,rfl,h1,h2,h3,h4⟩
  exact KE S' w' x h1 h2 h3 h4
 unfold Hs at hq
 split at hq
 .rename_i Z9 has
  split at hq
  .rename_i pre res hc
   simp only[a8o,a8u] at hq
   obtain⟨rfl,rfl,rfl⟩:=hq
   refine fin G.S Z9 _ _ hc fk (kE hE hI (DD cG) (λ _ h=>h) (λ τ v x y h1 h2=>Bx DE Ay h1 h2) has ot) hI.sOk ?_
   intro S' w' x h1 h2 h3 h4
   exact⟨x,S',rfl,hI.grow h1 h2 h3,AD h4⟩
  .cases hq
 .split at hq
  .rename_i Z9 has
   split at hq
   .rename_i pre res hc
    split at hq
    .rename_i hfl
     simp only[a8o,a8u] at hq
     obtain⟨rfl,rfl,rfl⟩:=hq
     refine fin (SX G lk) Z9 _ _ hc fk (kE hE hI cG (λ _ h => .inl h) (λ τ v x y h1 h2=>CZ hI.bc hI.aK cG h1 h2) has ot) ?_ ?_
     .exact hI.a0B
     .intro S' w' x h1 h2 h3 h4
      exact⟨x,G.S,rfl,hI.grow (S':=G.S) h1 (λ _ _=>b0w) (λ b hb=>a8G (hI.ez b hb) h1.size),AD (U5 hfl h4)⟩
    .cases hq
   .cases hq
  .cases hq
theorem Ux{o:Oper}{cl:Call}{fo:Operand}{f:FuncId}{l:List Value}(ho:o.op = .call cl)(hc:cl.callee = .value fo)(hf:a.eval fo = .func (.func f) #[] l.toArray)(vO:pX c.P f) :
  (execOp a.eval o).run c.P w = .ok (.enter f (cl.args.toList.map a.eval++l).toArray) w:=by
 obtain⟨fn,h1,h2,h3⟩:=vO
 have h3':(fn.name = "runtime.NumGoroutine")=False:=by simpa using h3
 have h2':fn.body≠none:=by intro e;simp[e] at h2
 simp[execOp,ho,resolve,hc,Deferred.ofValue,hf,invoke,callFunc,h1,h2',h3']
theorem FM(hE:bP c.P c.E)(hI:bz c G sl n lk a w){lk':Nat->Option aB}(cG:∀ id o,lk' id=some o->lk id=some o){o:Oper}{cl:Call}{fo:Operand}{g:AV}{Ts:List TypeId}{vs:List AV}
  {vc:Vc} {v:AV} {ob:Option aB} (hq:B0 c.E lk' g Ts vs=some (vc,v,ob)) (fk:vc.ok) (ot:aT (VR c G lk w) vs (cl.args.toList.map a.eval)) (bE:o.op = .call cl) (jQ:cl.callee = .value fo) (hg:VR c G lk w g (a.eval fo))
  {Q:Exit->Act->World->Prop}:o.wp c.P a w (zn c G sl n lk o.dst a w v ob) Q:=by
 have fin:∀ (S:Nat->Prop) (Z9:List Arg) (q:FV) (pre:Prop) (y:q.r.den),vI q.ps q.r q.F Z9=some (pre,y)->pre->aT (zm c.P w S) Z9 (cl.args.toList.map a.eval)->zm c.P w S (.dq q) (a.eval fo)->wR w S ->
   (∀ S' w' x,bN (λ _=>False) w w'->(∀ b,b<w.heap.size->(S' b↔S b))->(∀ b,S' b->b<w'.heap.size)->DY w' S' [⟨q.r,y⟩] x->zn c G sl n lk o.dst a w (DM [⟨q.r,y⟩]) none (a.put o.dst x) w') ->
   o.wp c.P a w (zn c G sl n lk o.dst a w (DM [⟨q.r,y⟩]) none) Q:=by
  intro S Z9 q pre y Wc SI has a6P bS KE
  obtain⟨f,iD,l,h1,h2,h3⟩:=a6P
  obtain⟨⟨vO,rp⟩,XO⟩:=PT h2 Wc SI
  unfold Oper.wp
  rw[Ux bE jQ h1 vO]
  simp only[Oper.upon]
  simp only[a8T] at rp
  have a6J:aT (Jz w S) Z9 (cl.args.toList.map a.eval):=has.imp λ u z hu hz=>by
   obtain⟨v,rfl⟩:=XO u hu
   exact hz
  refine (rp w S _ bS (a6J.append h3)).mono ?_
  rintro e w' ⟨x,S',a7t,rfl,rfl,h1,h2,h3,h4⟩
  exact KE S' w' x h1 h2 h3 h4
 unfold B0 at hq
 split at hq
 .rename_i r0 SJ
  split at SJ
  .rename_i Z9 has
   split at SJ
   .rename_i q hqq
    split at SJ
    .rename_i pre y Wc
     simp only[a8o] at SJ hq
     subst SJ
     simp only[a8u] at hq
     obtain⟨rfl,rfl,rfl⟩:=hq
     refine fin G.S Z9 q pre y Wc fk (kE hE hI (DD cG) (λ _ h=>h) (λ τ v x y h1 h2=>Bx DE Ay h1 h2) has ot) (Df hE hI (DD cG) (λ _ h=>h) (λ τ v x y h1 h2=>Bx DE Ay h1 h2) hqq hg) hI.sOk ?_
     intro S' w' x h1 h2 h3 h4
     exact⟨x,S',rfl,hI.grow h1 h2 h3,AD h4⟩
    .cases SJ
   .cases SJ
  .cases SJ
 .split at hq
  .rename_i Z9 has
   split at hq
   .rename_i q hqq
    split at hq
    .rename_i pre y Wc
     split at hq
     .rename_i hfl
      simp only[a8o,a8u] at hq
      obtain⟨rfl,rfl,rfl⟩:=hq
      refine fin (SX G lk) Z9 q pre y Wc fk (kE hE hI cG (λ _ h => .inl h) (λ τ v x y h1 h2=>CZ hI.bc hI.aK cG h1 h2) has ot) (Df hE hI cG (λ _ h => .inl h) (λ τ v x y h1 h2=>CZ hI.bc hI.aK cG h1 h2) hqq hg) ?_ ?_
      .exact hI.a0B
      .intro S' w' x h1 h2 h3 h4
       exact⟨x,G.S,rfl,hI.grow (S':=G.S) h1 (λ _ _=>Iff.rfl) (λ b hb=>Nat.lt_of_lt_of_le (hI.ez b hb) h1.size),AD (U5 (res:=[⟨q.r,y⟩]) (by simpa using hfl) h4)⟩
     .cases hq
    .cases hq
   .cases hq
  .cases hq
theorem mN{o:Oper}{cl:Call}{fo:Operand}{f:FuncId}(ho:o.op = .call cl)(hc:cl.callee = .value fo)(hf:a.eval fo = .func (.func f) #[] #[])(vO:pX c.P f) :
  (execOp a.eval o).run c.P w = .ok (.enter f (cl.args.toList.map a.eval).toArray) w:=by
 obtain⟨fn,h1,h2,h3⟩:=vO
 have h3':(fn.name = "runtime.NumGoroutine")=False:=by simpa using h3
 have h2':fn.body≠none:=by intro e;simp[e] at h2
 simp[execOp,ho,resolve,hc,Deferred.ofValue,hf,invoke,callFunc,h1,h2',h3']
 apply b2i
 simp
theorem aT.rj{ev:Operand->AV}(dc:∀ x,VR c G lk w (ev x) (a.eval x)):∀ l:List Operand,aT (VR c G lk w) (l.map ev) (l.map a.eval)
 | []=>trivial
 | x::r=>⟨dc x,aT.rj dc r⟩
theorem aT.HE{ev:Operand->AV}(dc:∀ x,VR c G lk w (ev x) (a.eval x)):∀ l:List (Nat×Operand),
  aT (λ p q=>p.1=q.1/\VR c G lk w p.2 q.2) (l.map λ p=>(p.1,ev p.2)) (l.map λ p=>(p.1,a.eval p.2))
 | []=>trivial
 | x::r=>⟨⟨rfl,dc x.2⟩,aT.HE dc r⟩
theorem mY{S:Nat->Prop}{t:Ty}{xs:List t.den}{x:Value}(h:fA w S ⟨.slice t,xs⟩ x):∃ ad cap,x = .slice ad xs.length cap/\xs.length<=cap/\xs.length<=140737488355328 /\
  (xs=[]\/∃ b o,ad=some ⟨b,o,none⟩/\S b/\dL w S (xs.map t.aR) b o):=by
 obtain⟨ad,cap,h1,h2,h3,h4,h5⟩:=h
 simp only[a8z,a8F,a8R] at h1
 exact⟨ad,cap,h1,by simpa using h2,by simpa using h4,h5.imp (λ h=>by simpa using h) id⟩
theorem a3V(lo hi m n:Int)(h1:lo<=m/\m<=hi)(h2:lo<=n/\n<=hi):lo<=max m n/\max m n<=hi:=by omega
theorem a3U(m n:Int):(if n>m then n else m)=max m n:=by
 rw[Int.max_def]
 split<;>split<;>omega
theorem X1(hE:bP c.P c.E){op:BinOp}{T:TypeId}{u v r:AV}{x y:Value}{p:Vc}(ox oy:Operand)
  (h:WG c.E op T u v=some (p,r)) (hp:p.ok) (hu:VR c G lk w u x) (hv:VR c G lk w v y) :
  ∃ z,(do eqGuard op T ox oy x y;binOp op T x y:Sem Value).run c.P w = .ok z w/\VR c G lk w r z:=by
 unfold WG at h
 split at h
 .rename_i t r1 τ xs hl
  have hy:y = .slice none 0 0:=hv
  subst hy
  obtain⟨r1,r2⟩:=r1
  obtain⟨hT,_⟩:=hE.slice hl
  obtain⟨a,cap,h1,_,h3⟩:=mY hu
  subst h1
  have heq:(Op.equal T (.slice a xs.length cap) (.slice none 0 0)).run c.P w = .ok a.isNone w:=by
   have h9:∀ d:Nat,(Op.equalIn (d+1) T (.slice a xs.length cap) (.slice none 0 0)).run c.P w = .ok a.isNone w:=λ d=>by
    cases a<;>simp[Op.equalIn,a9s hT]
   exact h9 9999
  have key:1<=xs.length->a.isNone=false:=λ hx=>by
   rcases h3.2 with h|⟨b,o,h,_⟩
   .subst h;simp at hx
   .subst h;rfl
  split at h
  .simp only[a8o,a8u] at h
   obtain⟨rfl,rfl⟩:=h
   refine⟨.bool false,?_,rfl⟩
   simp only[eqGuard_at_slice,a8Y,a8Z,a8Q,binOp,heq,key hp]
  .simp only[a8o,a8u] at h
   obtain⟨rfl,rfl⟩:=h
   refine⟨.bool true,?_,rfl⟩
   simp only[eqGuard_at_slice,a8Y,a8Z,a8Q,binOp,heq,key hp]
   rfl
  .cases h
 .cases h
theorem a1p{S:Nat->Prop}{t:Ty}{ys:List t.den}{ad:Option Addr}{m cap:Nat}(h1:ys.length=m)(h2:m<=cap)(h3:cap<=maxLen)(h4:m<=140737488355328)
  (h5:ys=[]\/∃ b o,ad=some ⟨b,o,none⟩/\S b/\dL w S (ys.map t.aR) b o):fA w S ⟨.slice t,ys⟩ (.slice ad m cap):=by
 subst h1
 exact⟨ad,cap,by simp,by simpa using h2,h3,by simpa using h4,h5.imp (λ h=>by simp[h]) id⟩
theorem tm(hE:bP c.P c.E){T:TypeId}{t:Ty}{b e:Nat}(h:af c.E.ty T=some (.slice t,b,e)){bk o len cap:Nat}{k:IntKind}{i:Int}(h0:0<=i)(h1:i<len)(w:World) :
  (Instr.indexAt T (.slice (some ⟨bk,o,none⟩) len cap) (.int k i)).run c.P w = .ok (.pointer (some ⟨bk,o+i.toNat * t.size,none⟩)) w:=by
 obtain⟨h2,⟨b',e',h3⟩,_⟩:=hE.slice h
 simp[Instr.indexAt,a9s h2,asIntOf,h0,h1,hE.sizeOf h3 w,b0p]
theorem I5(s:aS)(y:s.den)(i:Nat){f:TV}(hf:(s.fields y)[i]?=some f):((s.cells y).drop (s.gq i)).take f.τ.size=f.cells/\s.gq i+f.τ.size<=s.size:=by
 have Dq:∀ v:TV,v.cells.length=v.τ.size:=by
  rintro⟨τ,x⟩
  cases τ<;>first|rfl|exact aS.kY _ _
 have key:∀ (l:List TV) (i:Nat) (f:TV),l[i]?=some f->((l.flatMap TV.cells).drop ((l.map TV.τ).take i |>.map Ty.size).sum).take f.τ.size=f.cells/\(((l.map TV.τ).take i).map Ty.size).sum+f.τ.size<=(l.flatMap TV.cells).length:=by
  intro l
  induction l with
  | nil=>intro i f h;simp at h
  | cons g l ih =>
   intro i f h
   cases i with
   | zero =>
    simp at h
    subst h
    have:=Dq g
    simp only[a9D,b0j,List.sum_nil,b0C,b1P,a8K,a9Z]
    exact⟨by rw[<-this,b0D],by omega⟩
   | succ i =>
    obtain⟨h1,h2⟩:=ih i f (by simpa using h)
    simp only[a9k,b0A,b2o,b1P,a8K,<-Dq g]
    refine⟨?_,by omega⟩
    rw[<-a9Y,b0B]
    exact h1
 have:=key _ i f hf
 rw[<-aS.I1,aS.zN,aS.kY] at this
 exact this
theorem F1{S:Nat->Prop}{s:aS}{y:s.den}{i:Nat}{f:TV}(hf:(s.fields y)[i]?=some f){cs:List Value}(h:Rd w S (TV.aR ⟨.st s,y⟩) cs):Rd w S f.aR ((cs.drop (s.gq i)).take f.τ.size):=by
 obtain⟨h1,_⟩:=I5 s y i hf
 rw[show TV.aR ⟨.st s,y⟩=s.aR y from rfl,aS.cF] at h
 have h2:=((dB.dR.1 h).drop (s.gq i)).take f.τ.size
 rw[h1] at h2
 obtain⟨τ,x⟩:=f
 cases τ with
 | st s' =>
  show Rd w S (s'.aR x) _
  rw[aS.cF]
  exact dB.dR.2 h2
 | _ =>
  simp only[TV.cells] at h2
  match hc:(cs.drop (s.gq i)).take (Ty.size _),h2 with
  | [v],h2=>exact h2.1
theorem Xq{S:Nat->Prop}{s:aS}{y:s.den}{i:Nat}{f:TV}(hf:(s.fields y)[i]?=some f){cs:List Value}(h:Rd w S (s.aR y) cs):s.gq i+f.τ.size<=cs.length/\True:=by
 obtain⟨_,h1⟩:=I5 s y i hf
 have:=Rd.length _ h
 rw[aS.cF] at this
 simp only[D.size,a8R,aS.kY] at this
 exact⟨by omega,trivial⟩
theorem Ty.size_le(τ:Ty):τ.size<=100:=by
 have:∀ s:aS,s.size<=100:=by intro s;cases s<;>decide
 cases τ<;>first|exact this _|(simp[Ty.size];done)
theorem Rd.uw{S:Nat->Prop}{τ:Ty}{x:τ.den}{cs:List Value}(h:Rd w S (τ.aR x) cs):∀ u∈cs,u.oneCell'=true:=by
 cases τ with
 | st s =>
  rw[show Ty.aR (.st s) x=s.aR x from rfl,aS.cF] at h
  have ha:=dB.dR.1 h
  intro u hu
  obtain⟨i,hi,hiu⟩:=b0z hu
  have hlen:=ha.length
  obtain⟨b,hb,hr⟩:=ha.at_ i (s.cells x)[i] (a8P (by omega))
  have hbu:b=u:=by
   have:cs[i]?=some u:=by rw[a8P hi,hiu]
   rw[this] at hb;exact (b0I hb).symm
  subst hbu
  obtain⟨z,h1,h2⟩:=Rd.vT (aS.r5 s x _ (a9M _)) hr
  simp only[a8z,a8F] at h1
  subst h1
  exact Ap h2
 | _ =>
  obtain⟨z,rfl,h2⟩:=Rd.vT (mI (v:=⟨_,x⟩) rfl) h
  intro u hu
  simp only[a9q] at hu
  subst hu
  exact Ap h2
theorem fw.uw{S:Nat->Prop}{τ:Ty}:∀ {xs:List τ.den} {l:List Value},fw w S (xs.map τ.aR) l->∀ u∈l,u.oneCell'=true
 | [],l,h=>by rw[show l=[] from h];simp
 | x::xs,l,h=>by
  obtain⟨c1,r,rfl,h2,h3⟩:=h
  intro u hu
  rcases a8t.1 hu with hu|hu
  .exact Rd.uw h2 u hu
  .exact fw.uw h3 u hu
def Src(w:World)(S:Nat->Prop)(τ:Ty)(ys:List τ.den)(z:Value):Prop :=
 ∃ ad cap,z = .slice ad ys.length cap/\(ys=[]\/∃ b o news,ad=some ⟨b,o,none⟩/\ct w b o news/\fw w S (ys.map τ.aR) news)
theorem GL{lk lk':Nat->Option aB}(cG:∀ id o,lk' id=some o->lk id=some o)(id:Nat)(o:aB)(h:MM lk' id=some o):lk id=some o:=by
 unfold MM at h
 split at h
 .cases h
 .exact cG id o h
theorem X2{lk:Nat->Option aB}(id:Nat)(τ:Ty)(xs:List τ.den):MM lk id≠some (.aE τ xs):=by
 unfold MM
 split
 .simp
 .rename_i k9;exact k9 _ _
theorem ZU(oM:∀ id o,lk id=some o->OR c G lk w id o){lk':Nat->Option aB}(cG:∀ id o,lk' id=some o->lk id=some o)(QH:∀ id τ xs,lk' id≠some (.aE τ xs)){τ:Ty}{v:AV}{z:Value}{ys:List τ.den}(h:mS lk' (.slice τ) v=some ys)
  (hv:C1 c G lk w v z):Src w G.S τ ys z:=by
 cases v with
 | aW u =>
  have e:=TV.aY h
  subst e
  obtain⟨ad,cap,h1,h2,h3,h4⟩:=mY (show fA w G.S ⟨.slice τ,ys⟩ z from hv.2)
  refine⟨ad,cap,h1,h4.imp id ?_⟩
  rintro⟨b,o,h5,h6,h7⟩
  obtain⟨news,h8,h9⟩:=dL.cells _ b o h7
  exact⟨b,o,news,h5,h9,h8⟩
 | nil =>
  simp only[mS,a8o] at h
  subst h
  exact⟨none,0,hv, .inl rfl⟩
 | row id =>
  simp only[mS] at h
  split at h
  .rename_i e bo xs hl
   have e1:=TV.aY h
   cases e1
   have wY:=cG _ _ hl
   obtain⟨l,h1,h2,h3⟩:=oM _ _ wY
   rcases h1.2 with ⟨Ws,hn⟩|⟨g,cap,cur,Ws,_⟩
   .exact⟨none,0,by rw[hv.1,Ws,hn], .inl (a9E hn)⟩
   .refine⟨some ⟨g,0,none⟩,cap,by rw[hv.1,Ws], .inr ⟨g,0,l,rfl,?_,h2⟩⟩
    intro j u hj
    have:=h1.cells (g:=g) (by rw[Ws];rfl) j u hj
    rw[b0p] at this
    exact this
  .cases h
 | aE id =>
  simp only[mS] at h
  split at h
  .rename_i hl
   exact absurd hl (QH _ _ _)
  .cases h
 | _=>cases h
theorem PU{S:Nat->Prop}{base:Nat}(hE:bP c.P c.E){T:TypeId}{τ:Ty}{b e n:Nat}{v z:Value}{l:List Value}{ys:List τ.den}(hT:af c.E.ty T=some (.slice τ,b,e))(va:w.ownsRow base e τ.size v n l)
  (a2o:base<=w.heap.size) (ru:Src w S τ ys z) (Ds:br (n+ys.length) b) (ty:TypeId) :
  ∃ v' w' news,(Builtin.append_ #[T,T] ty #[v,z]).run c.P w = .ok v' w'/\w'.ownsRow base e τ.size v' (n+ys.length) (l++news)/\w.grownBy w' v.ownBlock/\(v'.ownBlock=v.ownBlock\/v'.ownBlock=some w.heap.size) /\
   fw w S (ys.map τ.aR) news/\n+ys.length<=140737488355328:=by
 obtain⟨k1,⟨b',e',k2⟩,i,zv,k3,k4,k5,k6,k7⟩:=hE.slice hT
 have Zm:zv.cells.size=τ.size:=by
  have:=Rd.length _ (NR (w:=w) (S:=S) k7)
  rwa [Ty.cT,a9v] at this
 have My:=τ.size_pos
 have QJ:(n+ys.length) * b<=140737488355328/\n+ys.length<=140737488355328:=by
  unfold br at Ds
  rw[Nat.mul_add,b2x] at Ds
  omega
 have Mx:n+ys.length<=maxLen:=by simp only[maxLen];omega
 obtain⟨ad,cap,h1,h4⟩:=ru
 subst h1
 by_cases hy:ys=[]
 .subst hy
  simp only[a8N,b0k] at *
  cases ad with
  | none =>
   refine⟨v,w,[],?_,by simpa using va,⟨rfl,rfl,rfl,Nat.le_refl _,λ _ _ _=>rfl⟩, .inl rfl,rfl,QJ.2⟩
   rcases va.2 with ⟨rfl,rfl⟩|⟨g,UP,cur,rfl,_,_,QG,_⟩
   .simp[Builtin.append_,a9s k1,sizeOf,typeInfo,k3,Builtin.lenOf,Builtin.firstCells]
   .simp[Builtin.append_,a9s k1,sizeOf,typeInfo,k3,Builtin.lenOf,Builtin.firstCells,QG,storeCells]
  | some ad =>
   obtain⟨v',w',m1,m2,m3,_,m5⟩:=run_append_own_at (P:=c.P) w base T ty e i zv τ.size b k1 k3 k6 k4 k5 Zm My v n l va ad 0 cap [] (by simp) (by simp) (by simp) Mx QJ.1 a2o
   exact⟨v',w',[],m1,m2,m3,m5,rfl,QJ.2⟩
 .rcases h4 with h4|⟨bk,o',news,rfl,h8,h7⟩
  .exact absurd h4 hy
  .skip
   have hlen:news.length=ys.length * τ.size:=by
    have:=fw.length (n:=τ.size) _ h7 (by
     intro d hd
     obtain⟨y,_,rfl⟩:=a8A.1 hd
     exact Ty.cT τ y)
    simpa using this
   obtain⟨v',w',m1,m2,m3,_,m5⟩:=run_append_own_at (P:=c.P) w base T ty e i zv τ.size b k1 k3 k6 k4 k5 Zm My v n l va ⟨bk,o',none⟩ ys.length cap news hlen (λ j u hj=>by rw[b0p];exact h8 j u hj) (fw.uw h7) Mx QJ.1 a2o
   exact⟨v',w',news,m1,m2,m3,m5,h7,QJ.2⟩
theorem R3{ev:Operand->AV}(dc:∀ x,VR c G lk w (ev x) (a.eval x)){d l:Int}{lo:Option Operand}(h:sB d (lo.map ev)=some l):(lo=none/\l=d)\/∃ k,lo.map a.eval=some (.int k l):=by
 cases lo with
 | none =>
  simp only[b1B,sB,a8o] at h
  exact .inl ⟨rfl,h.symm⟩
 | some x =>
  simp only[b1n,sB] at h
  split at h
  .rename_i hn
   cases hn
  .rename_i k n hn
   simp only[a8o] at h hn
   subst h
   have hx:=dc x
   rw[hn] at hx
   obtain⟨hx,_⟩:=hx
   simp only[a8z,a8F] at hx
   exact .inr ⟨k,by simp[hx]⟩
  .cases h
theorem PY{ev:Operand->AV}(dc:∀ x,VR c G lk w (ev x) (a.eval x)){l h:Int}{len cap:Nat}{lo hi:Option Operand}(sl:Bool)(hl:sB 0 (lo.map ev)=some l)(hh:sB (len:Int) (hi.map ev)=some h)
  (hc:cW l h len) (I9:len<=cap) (P:Program) (w':World):(Instr.sliceBounds sl len cap (lo.map a.eval) (hi.map a.eval) none).run P w' = .ok (l.toNat,h.toNat,cap) w':=by
 obtain⟨h0,h1,h2⟩:=hc
 have e1:(h.toNat:Int)=h:=Int.toNat_of_nonneg (by omega)
 rcases R3 dc hl with ⟨rfl,rfl⟩|⟨k,hk⟩<;>rcases R3 dc hh with ⟨rfl,rfl⟩|⟨k',oS⟩
 .simp[Instr.sliceBounds]
 .simp[Instr.sliceBounds,oS,b2e,show 0<=h from by omega,show h<=(cap:Int) from by omega]
 .simp[Instr.sliceBounds,hk,b2e,h0,h1]
 .simp[Instr.sliceBounds,hk,oS,b2e,h0,h1,show 0<=h from by omega,show h<=(cap:Int) from by omega,e1]
theorem Qe{n m:Int}{b:Nat}(h:cH n m b):0<=n/\n<=m/\m<=140737488355328/\(b:Int) * m<=140737488355328:=by
 obtain⟨h1,h2,h3⟩:=h
 have e:m * ((b:Int)+1)=m * b+m:=by rw[Int.mul_add,Int.mul_one]
 have p:0<=m * (b:Int):=Int.mul_nonneg (by omega) (by omega)
 have q:(b:Int) * m=m * b:=Int.mul_comm _ _
 exact⟨h1,h2,by omega,by omega⟩
theorem a1a(hE:bP c.P c.E){T:TypeId}{τ:Ty}{b e:Nat}(hT:af c.E.ty T=some (.slice τ,b,e)){n m:Int}(h:cH n m b)(w:World)
  (cw:∀ w',bN (λ _=>False) w w'->∀ b,G.S b->w'.heap[b]?=w.heap[b]?) :
  ∃ cap cs,(Instr.makeSlice T (.int .i64 n) (.int .i64 m)).run c.P w = .ok (.slice (some ⟨w.heap.size,0,none⟩) n.toNat cap) (w.alloc (.cells cs e)) /\
   ZT c G lk (w.alloc (.cells cs e)) (.slice (some ⟨w.heap.size,0,none⟩) n.toNat cap) (.row e τ (List.replicate n.toNat τ.zero)):=by
 obtain⟨v1,v2,v3,v4⟩:=Qe h
 obtain⟨h1,_,i,z,h3,h4,h5,h6,h7⟩:=hE.slice hT
 have hzr:=NR (w:=w) (S:=G.S) h7
 have hzl:=Rd.length _ hzr
 rw[Ty.cT,a9v] at hzl
 have hr:=run_make (P:=c.P) w T e i z h1 h3 h6 .i64 .i64 n m v1 v2 (by rw[h5];omega) (by omega)
 refine⟨m.toNat,madeCells z.cells (m.toNat * i.size),hr,(madeCells z.cells (n.toNat * z.cells.size)).toList,?_,?_,by simp;omega⟩
 .refine⟨by simp[madeCells,hzl], .inr ⟨w.heap.size,m.toNat,madeCells z.cells (m.toNat * i.size),by simp,a9J _,b0U w _,by simp;omega,by simp only[maxLen];omega,by simp[size_madeCells,h4],?_⟩⟩
  rw[h4,hzl,List.length_replicate]
  exact EP _ _ _ (b0t _ (by omega))
 .rw[b2v]
  exact fw.aU (λ _ h=>h) (cw _ (iN w _)) _ (Jo hzr n.toNat)
theorem bP.map(hE:bP c.P c.E){T:TypeId}{κ ε:Ty}(h:af c.E.XZ T=some (κ,ε))(w:World) :
  ∃ kT eT,c.P.underlying T=some (.map kT eT)/\c.P.underlying kT=some (descOf κ)/\κ.key=true/\ε.key=true/\∃ z,(zeroValue eT).run c.P w = .ok z w/\wS ε ε.zero z:=by
 have:=hE.XZ T κ ε h
 unfold S5 at this
 split at this
 .rename_i k e hu
  split at this
  .rename_i κ' r ε' r' hk he
   simp only[a8r,a8p] at this
   obtain⟨rfl,rfl,h3,h4⟩:=this
   obtain⟨i,z,k1,k2,k3,k4⟩:=(hE.info he).ex
   have hz:=NR (w:=w) (S:=λ _=>False) k4
   refine⟨k,e,hu,?_,h3,h4,z,by simp[zeroValue,typeInfo,k1,k3],?_⟩
   .obtain⟨b,e'⟩:=r
    cases κ' with
    | int q=>exact hE.int hk
    | bool=>exact hE.bool hk
    | str=>exact hE.str hk
    | _=>cases h3
   .have hc:z.cells.toList=[z]:=by
     cases ε'<;>cases z<;>first|rfl|(cases h4;done)|(simp[AK,yU] at k4;done)
    rw[hc] at hz
    exact wS.of h4 hz
  .cases this
 .cases this
theorem K4(hE:bP c.P c.E)(hI:bz c G sl n lk a w){lk':Nat->Option aB}(cG:∀ id o,lk' id=some o->lk id=some o){ev:Operand->AV}(dc:∀ x,VR c G lk w (ev x) (a.eval x))
  {o:Oper} {vc:Vc} {v:AV} {ob:Option aB} (hq:K3 c.E lk' ev o=some (vc,v,ob)) (fk:vc.ok) {Q:Exit->Act->World->Prop} :
  o.wp c.P a w (zn c G sl n lk o.dst a w v ob) Q:=by
 unfold K3 at hq
 split at hq
 case h_1 x bE =>
  simp only[a8o,a8u] at hq
  obtain⟨rfl,rfl,rfl⟩:=hq
  exact cI hI (by simp[execOp,bE]) (dc x)
 case h_2 x bE =>
  simp only[a8o,a8u] at hq
  obtain⟨rfl,rfl,rfl⟩:=hq
  exact cI hI (by simp[execOp,bE]) (dc x)
 case h_3 cc x y bE =>
  split at hq
  .rename_i hc
   simp only[a8o,a8u] at hq
   obtain⟨rfl,rfl,rfl⟩:=hq
   have h1:=dc cc
   rw[hc] at h1
   have h1:[a.eval cc]=[.bool true]:=h1
   simp only[a8z,a8F] at h1
   exact cI hI (by simp[execOp,bE,h1,asBool]) (dc x)
  .rename_i hc
   simp only[a8o,a8u] at hq
   obtain⟨rfl,rfl,rfl⟩:=hq
   have h1:=dc cc
   rw[hc] at h1
   have h1:[a.eval cc]=[.bool false]:=h1
   simp only[a8z,a8F] at h1
   exact cI hI (by simp[execOp,bE,h1,asBool]) (dc y)
  .cases hq
 case h_4 T bE =>
  split at hq
  .rename_i d τ r hd hT
   simp only[a8o,a8u] at hq
   obtain⟨rfl,rfl,rfl⟩:=hq
   obtain⟨i,z,h1,h2,h3,h4⟩:=(hE.info hT).ex
   refine B3 hI (x := .pointer (some ⟨w.heap.size,0,none⟩)) (w':=w.alloc (.cells z.cells T)) ?_ (hI.alloc _) ⟨d,hd,rfl⟩ ?_ ?_
   .simp[execOp,bE,Instr.alloc,zeroValue,typeInfo,h1,h3,newVar,newRow]
   .exact⟨_,z.cells.toList,T,rfl,by simpa using heap_alloc_new w _,n8 h4⟩
   .intro b hb
    simp only[eV,a8o] at hb
    subst hb
    simp
  .cases hq
 case h_5 T x bE =>
  split at hq
  .rename_i d τ r hd hT
   split at hq
   .split at hq
    .rename_i y hy
     simp only[a8o,a8u] at hq
     obtain⟨rfl,rfl,rfl⟩:=hq
     have ru:=fA.cells (Lu (c:=c) (G:=G) (lk:=lk) hy (dc x))
     have hk:=iN w (.cells (a.eval x).cells T)
     have cO:(w.alloc (.cells (a.eval x).cells T)).heap.size=w.heap.size+1:=by simp
     have zd:=hI.grow (S':=λ b=>G.S b\/b=w.heap.size) hk (λ b hb=>⟨λ h=>h.elim id λ e=>by omega, .inl⟩) (λ b hb=>by
      rcases hb with hb|hb
      .have:=hI.ez b hb;omega
      .omega)
     have cZ:(execOp a.eval o).run c.P w = .ok (.value (.pointer (some ⟨w.heap.size,0,none⟩))) (w.alloc (.cells (a.eval x).cells T)):=by
      simp[execOp,bE,Instr.box,newVar,newRow]
     unfold Oper.wp
     rw[cZ]
     refine⟨_,_,rfl,zd,?_⟩
     refine⟨w.heap.size,0,(a.eval x).cells.toList,rfl, .inl (.inr rfl),?_,Rd.aU (λ _ h => .inl h) (λ b hb=>hk.block b (hI.ez b hb) λ h=>h) _ ru⟩
     have:=b0U w (.cells (a.eval x).cells T)
     exact FP (p:=[]) (c:=(a.eval x).cells.toList) (r:=[]) (by simpa using this)
    .cases hq
   .split at hq
    .rename_i cs oq
     simp only[a8o,a8u] at hq
     obtain⟨rfl,rfl,rfl⟩:=hq
     obtain⟨h1,_,_⟩:=AP oq (dc x)
     refine B3 hI (x := .pointer (some ⟨w.heap.size,0,none⟩)) (w':=w.alloc (.cells (a.eval x).cells T)) ?_ (hI.alloc _) ⟨d,hd,rfl⟩ ?_ ?_
     .simp[execOp,bE,Instr.box,newVar,newRow]
     .exact⟨_,(a.eval x).cells.toList,T,rfl,by simpa using heap_alloc_new w _,h1.imp λ u y _ hy=>hI.a5q (iN w _) hy⟩
     .intro b hb
      simp only[eV,a8o] at hb
      subst hb
      simp
    .cases hq
  .cases hq
 case h_6 T parts bE =>
  split at hq
  .rename_i s r hT
   split at hq
   .rename_i cs oq
    simp only[a8o,a8u] at hq
    obtain⟨rfl,rfl,rfl⟩:=hq
    obtain⟨i,z,h1,h2,h3,h4⟩:=(hE.info hT).ex
    obtain⟨fs,h5,h6,h7⟩:=hE.st hT
    have hpl:fs.toList.mapM (λ f=>(c.P.info? f.type).map λ i=>(f.offset,i.size))=some (fs.toList.map λ f=>(f.offset,c.P.cellsOf f.type)):=by
     have:∀ l:List Field,(∀ f∈l,∃ i,c.P.info? f.type=some i)->l.mapM (λ f=>(c.P.info? f.type).map λ i=>(f.offset,i.size))=some (l.map λ f=>(f.offset,c.P.cellsOf f.type)):=by
      intro l
      induction l with
      | nil=>intro _;rfl
      | cons f l ih =>
       intro hl
       obtain⟨i,hi⟩:=hl f (by simp)
       simp[b0V,hi,ih λ f hf=>hl f (by simp[hf]),Program.cellsOf]
     refine this _ λ f hf=>?_
     obtain⟨j,hj,hjf⟩:=b0z hf
     obtain⟨t,b,e,_,k2,_⟩:=h7 j f (by rw[Array.getElem?_eq_getElem (by simpa using hj)];simpa using hjf)
     obtain⟨i,_,hi,_⟩:=(hE.info k2).ex
     exact⟨i,hi⟩
    have a3P:∀ i t,s.ic[i]?=some t->(fs.toList.map λ f=>(f.offset,c.P.cellsOf f.type)).toArray[i]?=some (s.gq i,t.size):=by
     intro i t hi
     have bS:i<fs.size:=by have:=(a9g.1 hi).1;omega
     obtain⟨t',b,e,k1,k2,k3⟩:=h7 i fs[i] (a9H bS)
     rw[hi] at k1
     simp only[a8o] at k1
     subst k1
     obtain⟨i',_,qd,cO,_⟩:=(hE.info k2).ex
     simp[bS,k3,Program.cellsOf,qd,cO]
    obtain⟨l',h8,h9⟩:=Ju (c:=c) (G:=G) (lk:=lk) (w:=w) a3P oq (aT.HE dc _) (n8 h4)
    have hb:c.P.built T ((parts.map λ (i,x)=>(i,a.eval x)).toList)=some l'.toArray:=by
     unfold Program.built
     rw[h1,h5]
     simp only[h3,hpl]
     rw[<-h8]
     congr 1
     simp
    refine cI hI (x := .agg l'.toArray) ?_ ⟨l',rfl,h9⟩
    simp[execOp,bE,run_build w T _ _ hb]
   .cases hq
  .cases hq
 case h_7 T len parts bE =>
  split at hq
  .rename_i d τ b e hd hT
   split at hq
   .rename_i hlen
    split at hq
    .rename_i xs ot
     simp only[a8r] at hlen
     have hl1:=a8s hlen.1
     have hl2:=a9u hlen.2
     subst hl1
     obtain⟨h1,⟨b',e',h2⟩,i,z,h3,h4,h5,h6,h7⟩:=hE.slice hT
     have My:=τ.size_pos
     have Mx:τ.size<=100:=Ty.size_le τ
     have a6L:parts.size * τ.size<=16777216:=b0N (Nat.mul_le_mul hl2 Mx) (by decide)
     obtain⟨r,h8,h9⟩:=I4 (c:=c) (G:=G) (lk:=lk) (w:=w) (τ:=τ) (place:=λ i=>some (i * τ.size,τ.size)) (λ _=>rfl) (l:=((Array.range (parts.size * τ.size)).map (λ j=>((if parts.size * τ.size=0 then #[] else z.cells:Array Value)[j % (if parts.size * τ.size=0 then #[] else z.cells:Array Value).size]!))).toList) ot (aT.HE dc _) (by simp)
     have vS:=Ec ot
     simp only[a8R,a9v] at vS
     have cO:∀ d∈xs.map τ.aR,d.size=τ.size:=by
      intro d hd
      obtain⟨y,_,rfl⟩:=a8A.1 hd
      exact Ty.cT τ y
     have hrl:=fw.length _ h9 cO
     simp only[a8R,vS] at hrl
     simp only[b1z,a9D,a8T,a9A] at h8
     have cZ:(execOp a.eval o).run c.P w = .ok (.value (.slice (some ⟨w.heap.size,0,none⟩) parts.size parts.size)) (w.alloc (.cells r.toArray e)):=by
      have e2:(parts.map λ (i,x)=>(i,a.eval x)).toList=parts.toList.map λ p=>(p.1,a.eval p.2):=by simp
      have k9:¬ (parts.size * τ.size>2 ^ 24):=by omega
      simp only[execOp,bE,Instr.buildSlice,a8Y,a9s h1,a8Q,hE.sizeOf h2,a8y k9,a8Z]
      by_cases h0:parts.size * τ.size=0
      .simp only[h0,b0r,a8Y,a8Z,a8Q,e2] at h8 ⊢
       rw[h8]
       simp[newRow]
      .simp only[h0,b1q,a8Y,zeroValue,typeInfo,run_program,a8Q,h3,h6,a8Z,e2] at h8 ⊢
       rw[h8]
       simp[newRow]
     have ho:(w.alloc (.cells r.toArray e)).ownsRow 0 e τ.size (.slice (some ⟨w.heap.size,0,none⟩) parts.size parts.size) xs.length r:=by
      rw[vS]
      have:=World.ownsRow_lit (base:=0) (e:=e) (size:=τ.size) w r.toArray parts.size (Nat.zero_le _) (by simp only[maxLen];omega) (by simpa using hrl)
      simpa using this
     have ru:=fw.aU (λ _ h=>h) (λ b hb=>hI.WS (iN w (.cells r.toArray e)) b (.inl hb)) _ h9
     have kJ:∀ b,eV (.slice (some ⟨w.heap.size,0,none⟩) parts.size parts.size)=some b->w.heap.size<=b/\b<(w.alloc (.cells r.toArray e)).heap.size:=by
      intro b hb
      simp only[eV,a8o] at hb
      subst hb
      simp
     split at hq
     .simp only[a8o,a8u] at hq
      obtain⟨rfl,rfl,rfl⟩:=hq
      exact a0M hI cZ (iN w _) ho ru (by omega) kJ
     .simp only[a8o,a8u] at hq
      obtain⟨rfl,rfl,rfl⟩:=hq
      exact B3 hI cZ (hI.alloc _) ⟨d,hd,rfl⟩ ⟨r,ho,ru,by omega⟩ kJ
    .cases hq
   .cases hq
  .cases hq
 case h_8 T ad bE =>
  split at hq
  .rename_i τ r hT
   split at hq
   .rename_i u hu
    simp only[a8o,a8u] at hq
    obtain⟨rfl,rfl,rfl⟩:=hq
    obtain⟨b,o',cs,h1,h2,h3,h4⟩:=s5 hI.aK cG hu (dc ad)
    refine cI hI ?_ h4
    simp only[execOp,bE,h1,a8Y,pt hE hT h2 h3,a8Q,a8Z]
   .cases hq
  .cases hq
 case h_9 x bE =>
  have key:∀ u,ev x=u->(∃ b o,a.eval x = .pointer (some ⟨b,o,none⟩))->vc = .none->v=u->ob=none->o.wp c.P a w (zn c G sl n lk o.dst a w v ob) Q:=by
   rintro u hu ⟨b,o',hx⟩ _ rfl rfl
   refine cI hI (x:=a.eval x) ?_ (hu ▸ dc x)
   simp only[execOp,bE,hx,a8Z]
  have hx:=dc x
  split at hq
  .rename_i u hu
   simp only[a8o,a8u] at hq
   rw[hu] at hx
   obtain⟨b,o',cs,h1,_⟩:=hx
   exact key _ hu ⟨b,o',h1⟩ hq.1.symm hq.2.1.symm hq.2.2.symm
  .rename_i id off hu
   simp only[a8o,a8u] at hq
   rw[hu] at hx
   obtain⟨b,_,h1,_⟩:=hx
   exact key _ hu ⟨b,off,h1⟩ hq.1.symm hq.2.1.symm hq.2.2.symm
  .rename_i id i off hu
   simp only[a8o,a8u] at hq
   rw[hu] at hx
   obtain⟨b,_,_,_,_,_,_,_,_,h1⟩:=hx
   exact key _ hu ⟨b,_,h1⟩ hq.1.symm hq.2.1.symm hq.2.2.symm
  .cases hq
 case h_10 T x i bE =>
  split at hq
  .rename_i s r hT
   have hx:=dc x
   split at hq
   .rename_i u hu
    rw[hu] at hx
    split at hq
    .rename_i y hy
     have e:=TV.aY hy
     subst e
     split at hq
     .rename_i f hf
      simp only[a8o,a8u] at hq
      obtain⟨rfl,rfl,rfl⟩:=hq
      obtain⟨b,o',cs,h1,h2,h3,h4⟩:=hx
      have bS:i<s.ic.length:=by
       have:=(a9g.1 hf).1
       rw[<-aS.zN s y,a8R];exact this
      refine cI hI (x := .pointer (some ⟨b,o'+s.gq i,none⟩)) ?_ ?_
      .simp only[execOp,bE,h1,a8Y,nx hE hT bS,a8Q,a8Z]
      .refine⟨b,o'+s.gq i,(cs.drop (s.gq i)).take f.τ.size,rfl,h2,h3.part _ _,?_⟩
       exact F1 hf h4
     .cases hq
    .cases hq
   .rename_i id off hu
    rw[hu] at hx
    split at hq
    .rename_i bS
     simp only[a8o,a8u] at hq
     obtain⟨rfl,rfl,rfl⟩:=hq
     have bS:i<s.ic.length:=by simpa [Nat.blt_eq] using bS
     obtain⟨b,h1,h2,h3⟩:=hx
     refine cI hI (x := .pointer (some ⟨b,off+s.gq i,none⟩)) ?_ ⟨b,h1,rfl,h3⟩
     simp only[execOp,bE,h2,a8Y,nx hE hT bS,a8Q,a8Z]
    .cases hq
   .rename_i id k off hu
    rw[hu] at hx
    split at hq
    .rename_i bS
     simp only[a8o,a8u] at hq
     obtain⟨rfl,rfl,rfl⟩:=hq
     have bS:i<s.ic.length:=by simpa [Nat.blt_eq] using bS
     obtain⟨b,m,cap,e,τ,xs,h1,h2,h3,h4⟩:=hx
     refine cI hI (x := .pointer (some ⟨b,k * τ.size+(off+s.gq i),none⟩)) ?_ ⟨b,m,cap,e,τ,xs,h1,h2,h3,rfl⟩
     simp only[execOp,bE,h4,a8Y,nx hE hT bS,a8Q,a8Z,b1j]
    .cases hq
   .cases hq
  .cases hq
 case h_11 T x i bE =>
  split at hq
  .rename_i s r hT
   have hx:=dc x
   split at hq
   .rename_i u hu
    rw[hu] at hx
    split at hq
    .rename_i y hy
     have e:=TV.aY hy
     subst e
     split at hq
     .rename_i f hf
      simp only[a8o,a8u] at hq
      obtain⟨rfl,rfl,rfl⟩:=hq
      obtain⟨cs,h1,h2⟩:=hx
      have hty:s.ic[i]?=some f.τ:=by rw[<-aS.zN s y,a9W,hf];rfl
      obtain⟨h3,h4⟩:=Xq hf h2
      refine cI hI (x:=IA f.τ ((cs.drop (s.gq i)).take f.τ.size)) ?_ (fA.mk_ (F1 hf h2))
      simp only[execOp,bE,h1,a8Y,TH hE hT hty h3,a8Q,a8Z]
     .cases hq
    .cases hq
   .rename_i cs hu
    rw[hu] at hx
    split at hq
    .rename_i τ l8
     split at hq
     .rename_i u hg
      simp only[a8o,a8u] at hq
      obtain⟨rfl,rfl,rfl⟩:=hq
      obtain⟨l,h1,h2⟩:=hx
      obtain⟨h3,h4,h5⟩:=F7 h2 hg
      refine cI hI (x:=IA τ ((l.drop (s.gq i)).take τ.size)) ?_ h3
      simp only[execOp,bE,h1,a8Y,TH hE hT l8 h5,a8Q,a8Z]
     .cases hq
    .cases hq
   .cases hq
  .cases hq
 case h_12 T x ix bE =>
  split at hq
  .rename_i τ r hT
   split at hq
   .rename_i k i hi
    have vQ:=dc ix
    rw[hi] at vQ
    obtain⟨vQ,_⟩:=vQ
    simp only[a8z,a8F] at vQ
    have hx:=dc x
    split at hq
    .rename_i u hu
     rw[hu] at hx
     split at hq
     .rename_i xs ot
      have e:=TV.aY ot
      subst e
      simp only[a8o,a8u] at hq
      obtain⟨rfl,rfl,rfl⟩:=hq
      obtain⟨h0,h1⟩:=fk
      obtain⟨ad,cap,h2,h3,h4,h5⟩:=mY hx
      rcases h5 with h5|⟨b,o',h5,h6,h7⟩
      .subst h5
       simp only[a8N] at h1
       omega
      .subst h5
       have bS:i.toNat<xs.length:=by omega
       obtain⟨cs,m1,m2,m3⟩:=dL.at_ (n:=τ.size) _ b o' h7 (by
        intro d hd
        obtain⟨y,_,rfl⟩:=a8A.1 hd
        exact Ty.cT τ y) i.toNat (τ.aR (xs.getD i.toNat τ.zero)) (by simp[List.getD,bS])
       refine cI hI (x := .pointer (some ⟨b,o'+i.toNat * τ.size,none⟩)) ?_ ⟨b,_,cs,rfl, .inl h6,m3,m2⟩
       simp only[execOp,bE,h2,vQ,a8Y,tm hE hT h0 h1,a8Q,a8Z]
     .cases hq
    .rename_i id hu
     rw[hu] at hx
     split at hq
     .rename_i e' bo xs hl
      split at hq
      .rename_i l8
       have l8:=a9e l8
       subst l8
       simp only[a8o,a8u] at hq
       obtain⟨rfl,rfl,rfl⟩:=hq
       obtain⟨h0,h1⟩:=fk
       obtain⟨h2,_,_⟩:=hx
       have wY:=cG _ _ hl
       obtain⟨l,m1,_,_⟩:=hI.aK _ _ wY
       have bS:i.toNat<xs.length:=by omega
       rcases m1.2 with ⟨_,hn⟩|⟨g,cap,cur,hv,_⟩
       .omega
       .refine cI hI (x := .pointer (some ⟨g,0+i.toNat * bo.size,none⟩)) ?_ ⟨g,_,cap,e',bo,xs,hv,wY,bS,by simp⟩
        simp only[execOp,bE,h2,hv,vQ,a8Y,tm hE hT h0 h1,a8Q,a8Z]
      .cases hq
     .cases hq
    .cases hq
   .cases hq
  .cases hq
 case h_13 T x ix bE =>
  split at hq
  .rename_i r hT
   split at hq
   .rename_i k i hi
    have vQ:=dc ix
    rw[hi] at vQ
    obtain⟨vQ,_⟩:=vQ
    simp only[a8z,a8F] at vQ
    have hx:=dc x
    split at hq
    .rename_i xs hu
     rw[hu] at hx
     simp only[a8o,a8u] at hq
     obtain⟨rfl,rfl,rfl⟩:=hq
     obtain⟨s,h1,h2,h3⟩:=hx
     simp only[a8z,a8F] at h1
     subst h2
     have cO:s.data.toList.length=s.size:=a9v
     have fk:aw i s.data.toList.length:=fk
     unfold aw at fk
     rw[cO] at fk
     have bS:Int.toNat i<s.size:=by omega
     have he:s.data.toList.getD (Int.toNat i) 0=s[Int.toNat i]'bS:=by
      have h5:Int.toNat i<s.data.size:=bS
      rw[List.getD_eq_getElem?_getD,List.getElem?_eq_getElem (by simpa using h5)]
      rfl
     have hr:(execOp a.eval o).run c.P w = .ok (.value (.int .u8 (s[Int.toNat i]'bS).toNat)) w:=by
      simp only[execOp,bE,h1,vQ,a8Y,run_index_string w T s k i (hE.str hT)]
      rw[dif_pos fk]
      rfl
     refine cI hI hr ⟨by rw[he],?_⟩
     have:=(s.data.toList.getD (Int.toNat i) 0).toNat_lt
     exact⟨Int.natCast_nonneg _,by simp only[IntKind.max,IntKind.signed,IntKind.bits,a8w,b1q];omega⟩
    .cases hq
   .cases hq
  .cases hq
 case h_14 op T x y yt bE =>
  split at hq
  .rename_i p u hu
   simp only[a8o,a8u] at hq
   obtain⟨rfl,rfl,rfl⟩:=hq
   obtain⟨z,h1,h2⟩:=X1 hE x y hu fk (dc x) (dc y)
   refine cI hI ?_ h2
   simp only[execOp,bE]
   rw[a8Y,h1]
   rfl
  .split at hq
   .rename_i p u hu
    simp only[a8o,a8u] at hq
    obtain⟨rfl,rfl,rfl⟩:=hq
    obtain⟨z,h1,h2⟩:=YM hE x y hu fk (dc x) (dc y)
    refine cI hI ?_ h2
    simp only[execOp,bE]
    rw[a8Y,h1]
    rfl
   .cases hq
 case h_15 op xt x bE =>
  split at hq
  .rename_i b hb
   simp only[a8o,a8u] at hq
   obtain⟨rfl,rfl,rfl⟩:=hq
   have hx:=dc x
   rw[hb] at hx
   have hx:[a.eval x]=[.bool b]:=hx
   simp only[a8z,a8F] at hx
   exact cI hI (x := .bool !b) (by simp[execOp,bE,hx,Op.unary]) rfl
  .rename_i k i hb
   simp only[a8o,a8u] at hq
   obtain⟨rfl,rfl,rfl⟩:=hq
   have hx:=dc x
   rw[hb] at hx
   obtain⟨hx,_⟩:=hx
   simp only[a8z,a8F] at hx
   have hr:=fm fk
   have h0:(0:Int) - i = -i:=Int.zero_sub _
   exact cI hI (x := .int k (-i)) (by simp[execOp,bE,hx,Op.unary,Op.intArith,h0,vF hr]) ⟨rfl,hr⟩
  .cases hq
 case h_16 src dst x bE =>
  split at hq
  .rename_i k1 r1 k2 r2 hs hd
   split at hq
   .rename_i k3 i Fc
    simp only[a8o,a8u] at hq
    obtain⟨rfl,rfl,rfl⟩:=hq
    have hx:=dc x
    rw[Fc] at hx
    obtain⟨hx,_⟩:=hx
    simp only[a8z,a8F] at hx
    have hr:=fm fk
    refine cI hI (x := .int k2 i) ?_ ⟨rfl,hr⟩
    simp[execOp,bE,hx,convert,a9s (hE.int hs),a9s (hE.int hd),Conv.intToInt,vF hr]
   .cases hq
  .cases hq
 case h_18 t i bE =>
  split at hq
  .rename_i vs ht
   split at hq
   .rename_i u hu
    simp only[a8o,a8u] at hq
    obtain⟨rfl,rfl,rfl⟩:=hq
    have hx:=dc t
    rw[ht] at hx
    obtain⟨l,h1,h2⟩:=hx
    obtain⟨z,h3,h4⟩:=h2.at_ i u hu
    refine cI hI (x:=z) ?_ ?_
    .simp[execOp,bE,Instr.extract,h1,h3]
    .cases u<;>first|exact h4|exact h4.elim|trivial
   .cases hq
  .cases hq
 case h_19 T l cc bE =>
  split at hq
  .rename_i d τ b e hd hT
   split at hq
   .rename_i m m' hm hm'
    simp only[a8o,a8u] at hq
    obtain⟨rfl,rfl,rfl⟩:=hq
    have hl:=dc l
    have hc:=dc cc
    rw[hm] at hl
    rw[hm'] at hc
    obtain⟨hl,_⟩:=hl
    obtain⟨hc,_⟩:=hc
    simp only[a8z,a8F] at hl hc
    obtain⟨cap,cs,h1,h2⟩:=a1a (c:=c) (G:=G) (lk:=lk) hE hT fk w (λ w' hk b hb=>hI.WS hk b (.inl hb))
    refine B3 hI ?_ (hI.alloc _) ⟨d,hd,rfl⟩ h2 ?_
    .simp only[execOp,bE,hl,hc,a8Y,h1,a8Q,a8Z]
    .intro b hb
     simp only[eV,a8o] at hb
     subst hb
     simp
   .cases hq
  .cases hq
 case h_17 T x lo hi mx bE =>
  split at hq
  .rename_i τ r hT
   have hx:=dc x
   split at hq
   .rename_i u hu
    rw[hu] at hx
    split at hq
    .rename_i xs ot
     have e:=TV.aY ot
     subst e
     split at hq
     .rename_i l h hl hh
      simp only[a8o,a8u] at hq
      obtain⟨rfl,rfl,rfl⟩:=hq
      obtain⟨ad,cap,h2,h3,h4,h5⟩:=mY hx
      obtain⟨k1,⟨b',e',k2⟩,_⟩:=hE.slice hT
      have hb:=PY dc true hl hh fk h3 c.P w
      obtain⟨v0,v1,v2⟩:=fk
      have cZ:(execOp a.eval o).run c.P w = .ok (.value (.slice (if cap=l.toNat then ad else ad.map (·.add (l.toNat * τ.size))) (h.toNat - l.toNat) (cap - l.toNat))) w:=by
       simp only[execOp,bE,h2,Instr.sliceAt,a8Y,a9s k1,a8Q,Instr.slice,b1B,hb,hE.sizeOf k2,a8Z]
      refine cI hI cZ ?_
      have hlen:((xs.take h.toNat).drop l.toNat).length=h.toNat - l.toNat:=by
       rw[a9w,a8U];omega
      refine a1p hlen (by omega) ?_ (by omega) ?_
      .have:=hx
       obtain⟨ad',UP,m1,m2,m3,_⟩:=this
       rw[h2] at m1
       simp only[a8z,b0g,a8F] at m1
       obtain⟨_,_,rfl⟩:=m1
       omega
      .rcases a9t l.toNat h.toNat with bS|Wk
       .right
        rcases h5 with h5|⟨b,o',rfl,h6,h7⟩
        .subst h5
         simp only[a8N] at v2
         omega
        .refine⟨b,o'+l.toNat * τ.size,?_,h6,?_⟩
         .rw[a8y (by omega)]
          simp[b0p]
         .rw[List.map_drop,List.map_take]
          refine dL.a2h _ _ _ _ (dL.a3n _ _ _ _ h7) ?_
          intro d hd
          obtain⟨y,_,rfl⟩:=a8A.1 (List.mem_of_mem_take hd)
          exact Ty.cT τ y
       .left
        exact a9E (by omega)
     .cases hq
    .cases hq
   .cases hq
  .rename_i r hT
   have hx:=dc x
   split at hq
   .rename_i xs hu
    rw[hu] at hx
    split at hq
    .rename_i l h hl hh
     simp only[a8o,a8u] at hq
     obtain⟨rfl,rfl,rfl⟩:=hq
     obtain⟨s,h1,h2,h3⟩:=hx
     simp only[a8z,a8F] at h1
     subst h2
     have cO:s.data.toList.length=s.size:=a9v
     rw[cO] at fk hh
     have hb:=PY dc false hl hh fk (a9i _) c.P w
     obtain⟨v0,v1,v2⟩:=fk
     refine cI hI (x := .string (s.extract l.toNat h.toNat)) ?_ ⟨_,rfl,?_,?_⟩
     .have k9:¬ ((none:Option Value).isSome=true):=by simp
      simp only[execOp,bE,h1,Instr.sliceAt,a8Y,a9s (hE.str hT),a8Q,Instr.slice,b1B,a8y k9,hb,a8Z]
     .rw[Lib.extract_data,b1G]
     .have:(s.extract l.toNat h.toNat).size<=s.size:=by
       rw[ByteArray.size_extract];omega
      omega
    .cases hq
   .cases hq
  .cases hq
 case h_20 cl bE =>
  have fB:=aT.rj dc cl.args.toList
  split at hq
  .rename_i jQ
   split at hq
   .rename_i T v1 Wb A0
    rw[A0] at fB
    match ot:cl.args.toList.map a.eval,fB with
    | [x],fB =>
     have hx:=fB.1
     have Mp:cl.argTypes = #[T]:=by rw[<-a9A (xs:=cl.argTypes),Wb]
     have Gk:cl.args.map a.eval = #[x]:=by rw[<-a9A (xs:=cl.args.map a.eval),b0q,ot]
     have SC:(execOp a.eval o)=(do let d <-resolve a.eval cl o.type;invoke d.target d.args):=by simp[execOp,bE]
     have P8:(execOp a.eval o).run c.P w=((Builtin.len_ #[T] o.type #[x]).run c.P w).andThen λ v w => .ok (.value v) w:=by
      rw[SC]
      simp[resolve,jQ,invoke,builtin,Mp,Gk]
     split at hq
     .rename_i t r hT
      obtain⟨k1,_,_⟩:=hE.slice hT
      have XC:c.P.elem T=r.2:=by simp[Program.elem,k1]
      have cZ:∀ ad len cap,x = .slice ad len cap->(execOp a.eval o).run c.P w = .ok (.value (.int .i64 len)) w:=by
       intro ad len cap hxx
       rw[P8,hxx,run_len_slice w T o.type ad len cap (by rw[XC];exact k1)]
       rfl
      have gG:∀ m:Nat,m<=140737488355328->IntKind.i64.min<=(m:Int)/\(m:Int)<=IntKind.i64.max:=λ m hm=>fm (k := .i64) ⟨by omega,by omega⟩
      split at hq
      .simp only[a8o,a8u] at hq
       obtain⟨rfl,rfl,rfl⟩:=hq
       exact cI hI (cZ _ _ _ hx) ⟨rfl,gG 0 (by omega)⟩
      .rename_i t' xs
       simp only[a8o,a8u] at hq
       obtain⟨rfl,rfl,rfl⟩:=hq
       obtain⟨ad,cap,h2,h3,h4,h5⟩:=mY hx
       exact cI hI (cZ _ _ _ h2) ⟨rfl,gG _ h4⟩
      .rename_i id
       split at hq
       .rename_i e' bo xs hl
        simp only[a8o,a8u] at hq
        obtain⟨rfl,rfl,rfl⟩:=hq
        obtain⟨h2,_,_⟩:=hx
        have wY:=cG _ _ hl
        obtain⟨ad,cap,h3,_,h4,_⟩:=mY (t:=bo) (a0x (hI.aK _ _ wY) wY)
        exact cI hI (cZ _ _ _ (h2.trans h3)) ⟨rfl,gG _ h4⟩
       .cases hq
      .cases hq
     .rename_i r hT
      split at hq
      .rename_i xs
       simp only[a8o,a8u] at hq
       obtain⟨rfl,rfl,rfl⟩:=hq
       obtain⟨s,h1,h2,h3⟩:=hx
       simp only[a8z,a8F] at h1
       subst h2
       have cO:s.data.toList.length=s.size:=a9v
       have gG:cr .i64 (s.size:Int):=⟨by omega,by omega⟩
       refine cI hI (x := .int .i64 s.size) ?_ ⟨by rw[cO],by rw[cO];exact fm gG⟩
       rw[P8,h1,run_len_string w T o.type s (hE.str hT)]
       rfl
      .cases hq
     .rename_i hT
      split at hq
      .cases hq
      .cases hq
     .cases hq
   .cases hq
  .rename_i jQ
   split at hq
   .rename_i d T T' hd Wb
    split at hq
    .rename_i τ b e Sw hT
     split at hq
     .rename_i y A0
      split at hq
      .rename_i ys Oo
       simp only[a8o,a8u] at hq
       obtain⟨rfl,rfl,rfl⟩:=hq
       have Sw:=a8s Sw
       subst Sw
       rw[A0] at fB
       match ot:cl.args.toList.map a.eval,fB with
       | [x,z],fB =>
        obtain⟨hx,hz,_⟩:=fB
        have hx:x = .slice none 0 0:=hx
        subst hx
        have Mp:cl.argTypes = #[T,T]:=by rw[<-a9A (xs:=cl.argTypes),Wb]
        have Gk:cl.args.map a.eval = #[.slice none 0 0,z]:=by rw[<-a9A (xs:=cl.args.map a.eval),b0q,ot]
        have P8:(execOp a.eval o).run c.P w=((Builtin.append_ #[T,T] o.type #[.slice none 0 0,z]).run c.P w).andThen λ v w => .ok (.value v) w:=by
         simp[execOp,bE,resolve,jQ,invoke,builtin,Mp,Gk]
        have hzc:C1 c G lk w y z:=by
         refine hz.VE ?_
         cases y with
         | aW u =>
          have e:=TV.aY Oo
          subst e
          rfl
         | nil=>rfl
         | row i=>rfl
         | aE i=>rfl
         | _=>cases Oo
        have ru:=ZU hI.aK (GL cG) X2 Oo hzc
        obtain⟨v',w',news,m1,m2,m3,m4,m5,m6⟩:=PU (w:=w) (base:=w.heap.size) hE hT (World.ownsRow_nil w _ e τ.size) (a9i _) ru (n:=0) (by rw[a9Z];exact fk) o.type
        have hk:bN (λ _=>False) w w':=⟨m3.os,m3.tape,m3.output,m3.size,λ b hb _=>m3.block b hb (by simp[Value.ownBlock])⟩
        simp only[a9Z,a8T] at m2
        refine B3 hI (x:=v') (w':=w') ?_ (hI.grow (S':=G.S) hk (λ _ _=>Iff.rfl) (λ b hb=>Nat.lt_of_lt_of_le (hI.ez b hb) hk.size)) ⟨d,hd,rfl⟩ ⟨news,?_,?_,by simpa using m6⟩ ?_
        .rw[P8,m1];rfl
        .exact⟨m2.1,m2.2.imp id λ ⟨g,cap,cur,q1,q2,q3⟩=>⟨g,cap,cur,q1,a9J _,q3⟩⟩
        .exact fw.aU (λ _ h=>h) (λ b hb=>hI.WS hk b (.inl hb)) _ m5
        .intro b hb
         have QI:=(ux (w:=w') (v:=v') (e:=e) ⟨m2.1,m2.2.imp id λ ⟨g,cap,cur,q1,q2,q3⟩=>⟨g,cap,cur,q1,a9J _,q3⟩⟩)
         have cD:v'.ownBlock=some b:=QI.trans hb
         exact m2.lt b cD
      .cases hq
     .cases hq
    .cases hq
   .cases hq
  .rename_i jQ
   split at hq
   .rename_i k m k' n A0
    split at hq
    .rename_i hk
     have hk:=a9e hk
     subst hk
     simp only[a8o,a8u] at hq
     obtain⟨rfl,rfl,rfl⟩:=hq
     rw[A0] at fB
     match ot:cl.args.toList.map a.eval,fB with
     | [x,z],fB =>
      obtain⟨⟨hx,hx2⟩,⟨hz,hz2⟩,_⟩:=fB
      simp only[a8z,a8F] at hx hz
      subst hx hz
      have Gk:cl.args.map a.eval = #[.int k' m, .int k' n]:=by rw[<-a9A (xs:=cl.args.map a.eval),b0q,ot]
      refine cI hI (x := .int k' (max m n)) ?_ ⟨rfl,?_⟩
      .have hm:=a3U m n
       simp[execOp,bE,resolve,jQ,invoke,builtin,Gk,Builtin.max_,Builtin.max2]
       exact hm
      .exact a3V _ _ _ _ hx2 hz2
    .cases hq
   .cases hq
  .rename_i f jQ
   exact P0 hE hI cG hq fk fB (λ vO=>mN bE jQ rfl vO)
  .rename_i t jQ
   split at hq
   .rename_i f hf
    have hx:=dc (.tmp t)
    rw[hf] at hx
    exact P0 hE hI cG hq fk fB (λ vO=>mN bE jQ hx vO)
   .rename_i f cs hf
    have hx:=dc (.tmp t)
    rw[hf] at hx
    exact FM hE hI cG hq fk fB bE jQ hx
   .rename_i v hf
    have hx:=dc (.tmp t)
    rw[hf] at hx
    exact FM hE hI cG hq fk fB bE jQ hx
   .cases hq
  .cases hq
 case h_21 T bE =>
  cases hq
 case h_22 T x ix ok bE=>cases hq
 case h_23 fn first captured bE =>
  split at hq
  .rename_i f a3K I9
   have oq:=aT.rj dc captured.toList
   have cZ:(execOp a.eval o).run c.P w = .ok (.value (.func (.func f) #[] (captured.toList.map a.eval).toArray)) w:=by
    have hf:first = #[]:=by rw[<-a9A (xs:=first),a3K]
    simp[execOp,bE,Instr.makeFunc,hf]
    apply b2i
    simp
   split at hq
   .rename_i xR
    simp only[a8o,a8u] at hq
    obtain⟨rfl,rfl,rfl⟩:=hq
    rw[xR] at oq
    match hl:captured.toList.map a.eval,oq with
    | [],_ =>
     rw[hl] at cZ
     exact cI hI cZ rfl
   .simp only[a8o,a8u] at hq
    obtain⟨rfl,rfl,rfl⟩:=hq
    exact cI hI cZ ⟨_,rfl,oq.imp λ u y hu hy=>hy.Yr (a9a.1 I9 u hu)⟩
  .cases hq
 case h_24=>cases hq
end
end Go.Proofs.YtmjfpcajohhbeaaGreatDoor

namespace Go.Proofs.YtmjfpcajohhbeaaGreatDoor
theorem HC(f:aB->aB):∀ (l:List (Nat×aB)) (j:Nat),af (l.map λ p=>(p.1,f p.2)) j=(af l j).map f
 | [],_=>rfl
 | (k,o)::r,j=>by
  simp only[a9k,af]
  split
  .rfl
  .exact HC f r j
theorem eZ(id:Nat):∀ (l:List (Nat×aB)) (j:Nat),af (bW id l) j=if j=id then none else af l j
 | [],_=>by simp[bW,af]
 | (k,o)::r,j=>by
  simp only[bW]
  split
  .rename_i h
   have h:=a8s h
   subst h
   rw[eZ k r j]
   by_cases hj:j=k
   .simp[hj]
   .rw[a8y hj,a8y hj]
    simp only[af]
    split
    .rename_i h;exact absurd (a8s h).symm hj
    .rfl
  .rename_i h
   have hk:k≠id:=λ e=>by subst e;simp at h
   simp only[af]
   split
   .rename_i h'
    have h':=a8s h'
    subst h'
    rw[a8y hk]
   .exact eZ id r j
theorem dP(k:Nat)(o:aB)(l:List (Nat×aB))(j:Nat):af ((k,o)::l) j=if j=k then some o else af l j:=by
 simp only[af]
 split
 .rename_i h;rw[a8O (a8s h).symm]
 .rename_i h
  have:j≠k:=λ e=>by subst e;simp at h
  rw[a8y this]
theorem tn(l:List AV)(d:Nat)(v:AV)(o:List (Nat×aB)):ah.sl ⟨l.set d v,o⟩=mZ l.length (ah.sl ⟨l,o⟩) (some d) v:=by
 funext i
 simp only[ah.sl,mZ,a8H,b1N,a8o]
 by_cases h:d=i
 .subst h
  by_cases hl:d<l.length
  .simp[hl]
  .simp[hl]
 .simp[h]
theorem a0A(s:ah)(d:Option Nat)(v:AV):(s.put d v).sl=mZ s.aC.length s.sl d v:=by
 cases d with
 | none=>funext i;simp[ah.put,mZ]
 | some d=>exact tn s.aC d v s.aK
theorem Vm(s:ah)(d:Option Nat)(v:AV):(s.put d v).af=s.af:=by cases d<;>rfl
theorem Qc(s:ah)(d:Option Nat)(v:AV):(s.put d v).aC.length=s.aC.length:=by cases d<;>simp[ah.put]
theorem VD(s:ah)(id:Nat):(s.cm id).sl=λ i=>(s.sl i).kill id:=by
 funext i
 simp only[ah.sl,ah.cm,a8H,a9W]
 cases s.aC[i]?<;>simp[AV.kill,AV.refs]
theorem eE(s:ah)(id:Nat):(s.cm id).af=λ i=>(s.af i).map (aB.kill id):=by
 funext i;exact HC _ _ _
section
variable {c:Ctx} {G:Gh} {s:ah} {a:Act} {w w':World}
theorem Inv.put(h:Inv c G s a w){d:Option Nat}{v:AV}{x:Value}(hv:VR c G s.af w v x):Inv c G (s.put d v) (a.put d x) w:=by
 unfold Inv
 rw[a0A,Vm,Qc]
 exact bz.put h hv
theorem Inv.clear(h:Inv c G s a w)(id:Nat):bz c G (s.cm id).sl s.aC.length (λ i=>if i=id then none else (s.cm id).af i) a w /\
  (∀ i,((s.cm id).sl i).refs id=false)/\∀ i o,(s.cm id).af i=some o->o.refs id=false:=by
 have h1:=bz.cm h id
 have hs:∀ i,((s.cm id).sl i).refs id=false:=λ i=>by rw[VD];exact Dy id _
 have ho:∀ i o,(s.cm id).af i=some o->o.refs id=false:=λ i o cE=>by
  rw[eE] at cE
  simp only[a9m] at cE
  obtain⟨o',_,rfl⟩:=cE
  cases o' with
  | box cs=>exact G5 id cs
  | row e τ xs=>rfl
  | aE τ xs=>rfl
  | map m=>rfl
 refine⟨?_,hs,ho⟩
 rw[VD,eE]
 exact bz.a3E h1 id (λ i=>Dy id _) (λ i o cE _=>by
  have:=ho i o (by rw[eE];exact cE)
  exact this)
theorem Ur(id:Nat)(o:aB):(o.kill id).refs id=false:=by
 cases o with
 | box cs=>exact G5 id cs
 | row e τ xs=>rfl
 | aE τ xs=>rfl
 | map m=>rfl
theorem Inv.a0j(h:Inv c G s a w){id:Nat}{v:AV}{o:aB}{x:Value}(bS:id<400000)(hN:ZT c G s.af w x o)(hL:LV (some id) v o)
  (l7:∀ b,eV x=some b->(c.w0.heap.size<=b\/c.X b)/\¬ G.S b/\b<w.heap.size/\(∀ i o',i≠id->s.af i=some o'->eV (G.η i)≠some b)/\∀ j τ xs,s.af j=some (.aE τ xs)->b∉G.φ j) :
  Inv c ⟨G.S,λ i=>if i=id then x else G.η i,G.φ⟩ (s.lay (some id) v (some o)) (a.put (some id) x) w:=by
 obtain⟨h1,h2,h3⟩:=h.clear id
 have cG:(s.lay (some id) v (some o)).af=λ i=>if i=id then some (o.kill id) else (if i=id then none else (s.cm id).af i):=by
  funext i
  show af ((id,o.kill id)::bW id (s.cm id).aK) i=_
  rw[dP,eZ]
  rfl
 have KK:(s.lay (some id) v (some o)).sl=mZ s.aC.length (s.cm id).sl (some id) v:=by
  have:=tn (s.cm id).aC id v ((id,o.kill id)::bW id (s.cm id).aK)
  rw[show (s.cm id).aC.length=s.aC.length from by simp[ah.cm]] at this
  exact this
 have hlen:(s.lay (some id) v (some o)).aC.length=s.aC.length:=by simp[ah.lay,ah.cm]
 have tE:OR c ⟨G.S,λ i=>if i=id then x else G.η i,G.φ⟩ (λ i=>if i=id then some (o.kill id) else (if i=id then none else (s.cm id).af i)) w id (o.kill id):=by
  cases o with
  | box cs =>
   obtain⟨b,l,t,k1,k2,k3⟩:=hN
   refine⟨b,l,t,by simp[k1],k2,aT.eO _ (k3.imp λ u y _ hy=>?_)⟩
   refine (hy.kill id).mono (λ j hj=>?_) (λ _ h=>h) (λ _ _=>rfl)
   have fG:j≠id:=λ e=>by subst e;rw[Dy] at hj;cases hj
   simp only[a8y fG]
   exact⟨by rw[eE];exact K6 id _,trivial⟩
  | row e τ xs =>
   obtain⟨l,k1,k2,k3⟩:=hN
   exact⟨l,by simpa using k1,k2,k3⟩
  | aE τ xs=>exact hN.elim
  | map m =>
   obtain⟨b,es,clock,k1,k2,k3⟩:=hN
   exact⟨b,es,clock,by simp[k1],k2,k3⟩
 have XL:dw (some (o.kill id))=false:=by
  cases o with
  | aE τ xs=>exact hN.elim
  | _=>rfl
 have h4:=bz.newObj h1 id (o.kill id) x (by simp) h2 (λ i p wX=>by
  by_cases hi:i=id
  .simp[hi] at wX
  .rw[a8y hi] at wX
   exact h3 i p wX) (Ur id o) tE XL (.inr bS) (λ b hb=>by
  obtain⟨q1,q2,q3,q4,q5⟩:=l7 b hb
  refine⟨q1,q2,q3,λ i p wX=>?_,λ j τ xs hj=>?_⟩
  .by_cases hi:i=id
   .simp[hi] at wX
   .rw[a8y hi,eE] at wX
    simp only[a9m] at wX
    obtain⟨p',Wo,_⟩:=wX
    exact q4 i p' hi Wo
  .by_cases hi:j=id
   .simp[hi] at hj
   .rw[a8y hi,eE] at hj
    exact q5 j τ xs (mJ hj))
 unfold Inv
 rw[KK,cG,hlen]
 refine bz.put h4 ?_
 cases o with
 | box cs =>
  obtain⟨i,hi,rfl⟩:=hL
  simp only[a8o] at hi
  subst hi
  obtain⟨b,l,t,k1,k2,k3⟩:=hN
  exact⟨b,by simp[k1],k1,by simp[aB.kill,iy]⟩
 | row e τ xs =>
  obtain⟨i,hi,rfl⟩:=hL
  simp only[a8o] at hi
  subst hi
  obtain⟨l,k1,k2,k3⟩:=hN
  refine⟨by simp,by simp[aB.kill,isRow],?_⟩
  rcases k1.2 with ⟨rfl,_⟩|⟨g,cap,cur,rfl,_⟩
  .exact⟨_,_,_,rfl⟩
  .exact⟨_,_,_,rfl⟩
 | aE τ xs=>exact hN.elim
 | map m =>
  obtain⟨i,hi,rfl⟩:=hL
  simp only[a8o] at hi
  subst hi
  obtain⟨b,es,clock,k1,k2,k3⟩:=hN
  exact⟨by simp,by simp[aB.kill,KM],b,k1⟩
theorem SZ(h0:Inv c G s a w){d:Option Nat}(KD:vL d=true){v:AV}{ob:Option aB}{a':Act}(h:zn c G s.sl s.aC.length s.af d a w v ob a' w'):∃ G',Inv c G' (s.lay d v ob) a' w':=by
 obtain⟨x,S',rfl,hI,hx⟩:=h
 cases ob with
 | none=>exact⟨_,by cases d<;>exact Inv.put (s:=s) hI hx⟩
 | some o =>
  obtain⟨hL,hN,hb⟩:=hx
  have hd:∃ i,d=some i:=by cases o<;>first|exact⟨_,hL.choose_spec.1⟩|exact hL.elim
  obtain⟨i,rfl⟩:=hd
  refine⟨_,Inv.a0j (s:=s) hI (a9u KD) hN hL λ b SA=>?_⟩
  obtain⟨h1,h2,h3⟩:=hb b SA
  have hle:=h0.aU.size
  refine⟨by omega,h3,h2,λ j o' _ hj QF=>?_,λ j τ xs hj QF=>?_⟩
  .have:=(h0.place j o' b hj QF).2.2
   omega
  .have:=(h0.bc.pl j τ xs b hj QF).2.2.1
   omega
theorem Xi{k:IntKind}{n:Int}(h:Sc k n=true):k.min<=n/\n<=k.max:=by
 unfold Sc at h
 split at h
 .rename_i m
  split at h<;>have h:=a9u h<;>try (simp[IntKind.min,IntKind.max,IntKind.signed,IntKind.bits];omega)
  cases k<;>simp_all [IntKind.min,IntKind.max,IntKind.signed,IntKind.bits]<;>omega
 .rename_i m
  split at h
  .have h:=a9u h
   simp[IntKind.min,IntKind.max,IntKind.signed,IntKind.bits]
   omega
  .cases h
theorem I0(lk:Nat->Option aB)(v:Value):C1 c G lk w (LW v) v:=by
 unfold LW
 split
 .split
  .rename_i h
   exact⟨rfl,rfl,Xi h⟩
  .trivial
 .exact⟨rfl,rfl⟩
 .split
  .rename_i sv _ h
   have h:=a9u h
   exact⟨rfl,sv,rfl,rfl,by have:sv.size=sv.data.size:=rfl;omega⟩
  .trivial
 .rfl
 .trivial
theorem bC(h:Inv c G s a w)(x:Operand):VR c G s.af w (s.eval x) (a.eval x):=by
 cases x with
 | tmp t=>exact h.aC t
 | const v =>
  simp only[ah.eval,Act.eval]
  unfold Xh
  split
  .rename_i cs
   refine⟨cs.toList,rfl,aT.eO _ ?_⟩
   have:∀ l:List Value,aT (λ u y=>C1 c G s.af w (LW u) y) l l:=by
    intro l
    induction l with
    | nil=>trivial
    | cons u r ih=>exact⟨I0 _ u,ih⟩
   exact this _
  .rename_i cs
   split
   .rename_i hz
    have:cs = #[]:=b0P (a8s hz)
    subst this
    exact rfl
   .trivial
  .exact (I0 _ v).iU
 | global g=>trivial
 | func f=>rfl
theorem pN{g:Nat}{old cs:Array Value}{t:TypeId}{fr:Nat×Nat}(w:World)(hg:w.heap[g]?=some (.cells old t fr))(k:Nat)(hk:k≠g):(w.setRow g cs).heap[k]?=w.heap[k]?:=setRow_other w g k cs hk
theorem xg(hE:bP c.P c.E){T:TypeId}{τ:Ty}{b e:Nat}(hT:af c.E.ty T=some (τ,b,e)){g o:Nat}{l:List Value}{t:TypeId}{x:Value}(hg:w.heap[g]?=some (.cells l.toArray t (0,0)))
  (hx:x.cells.toList.length=τ.size) (h1:∀ u∈x.cells.toList,u.oneCell'=true) (Cc:o+τ.size<=l.length) :
  (Instr.storeAt T (.pointer (some ⟨g,o,none⟩)) x).run c.P w = .ok () (w.setRow g (l.take o++x.cells.toList++l.drop (o+τ.size)).toArray):=by
 have hn:¬ (x.cells.size≠τ.size):=by simpa using hx
 simp only[Instr.storeAt,Instr.sureAddr,storeVar,a8Y,a8Z,a8Q,hE.sizeOf hT,a8y hn]
 have:=run_storeCells_at c.P g o t x.cells.toList 0 l.toArray w hg (by simp at hx ⊢;omega) h1
 simpa [hx] using this
theorem Uv{cs new dN:List AV}{off:Nat}(h:putCells cs off new=some dN):off+new.length<=cs.length/\dN=cs.take off++(new++cs.drop (off+new.length)):=by
 unfold putCells at h
 split at h
 .rename_i hb
  simp only[a8o] at h
  exact⟨a9u hb,h.symm⟩
 .cases h
theorem Inv.store(hE:bP c.P c.E)(h:Inv c G s a w){T:TypeId}{τ:Ty}{bt e:Nat}(hT:af c.E.ty T=some (τ,bt,e)){id off:Nat}{cs new dN:List AV}{x p:Value}(bf:s.af id=some (.box cs))(hp:VR c G s.af w (.ptr id off) p)
  (tE:∃ v,cellsOf τ v=some new/\VR c G s.af w v x) (Cf:putCells cs off new=some dN) :
  ∃ w',(Instr.storeAt T p x).run c.P w = .ok () w'/\Inv c G { s with aK:=(id, .box dN)::bW id s.aK } a w':=by
 obtain⟨v,hv,hx⟩:=tE
 obtain⟨h1,h2,h3⟩:=AP hv hx
 obtain⟨h4,rfl⟩:=Uv Cf
 obtain⟨b,k1,rfl,_⟩:=hp
 obtain⟨b',l,t,k2,k3,k4⟩:=h.aK id _ bf
 rw[k1] at k2
 simp only[b1k,a8o,b0x,a8F] at k2
 subst k2
 have hlen:=h1.length
 have hll:=k4.length
 have cZ:=xg (c:=c) hE hT (o:=off) (x:=x) k3 (by omega) h2 (by omega)
 refine⟨_,cZ,?_⟩
 have KK:ah.sl { s with aK:=(id, .box (cs.take off++(new++cs.drop (off+new.length))))::bW id s.aK }=s.sl:=rfl
 have cG:ah.af { s with aK:=(id, .box (cs.take off++(new++cs.drop (off+new.length))))::bW id s.aK }=λ i=>if i=id then some (.box (cs.take off++(new++cs.drop (off+new.length)))) else s.af i:=by
  funext i
  show af (_::bW id s.aK) i=_
  rw[dP,eZ]
  by_cases hi:i=id
  .simp[hi]
  .simp[hi];rfl
 unfold Inv
 rw[KK,cG]
 have cw:∀ k,St c G.S k->(w.setRow b (l.take off++x.cells.toList++l.drop (off+τ.size)).toArray).heap[k]?=w.heap[k]?:=λ k hk=>pN w k3 k λ e=>by
  subst e
  obtain⟨q1,q2,q3⟩:=h.place id _ k bf (by rw[k1];rfl)
  rcases hk with hk|hk
  .exact q2 hk
  .exact q1.elim (λ q=>by omega) hk.2.1
 have gN:∀ j,fb (s.af j) ((λ i=>if i=id then some (aB.box (cs.take off++(new++cs.drop (off+new.length)))) else s.af i) j):=λ j=>by
  by_cases hj:j=id
  .subst hj
   simp only[b0r]
   exact⟨λ _=>rfl,(λ e τ xs hh=>by rw[bf] at hh;cases hh),(λ hh=>by rw[bf] at hh;cases hh),λ hh=>by rw[bf] at hh;cases hh⟩
  .simp only[a8y hj];exact fb.refl _
 refine bz.WD h id _ _ b bf (by rw[k1];rfl) ⟨λ _=>rfl,(λ e τ xs hh=>by cases hh),(λ hh=>by cases hh),λ hh=>by cases hh⟩ rfl (λ k hk=>pN w k3 k hk) rfl rfl rfl (by simp[World.setRow]) ?_
 refine⟨b,_,t,k1,b2b w b _ _ t _ k3,?_⟩
 have key:aT (C1 c G s.af w) (cs.take off++(new++cs.drop (off+new.length))) (l.take off++x.cells.toList++l.drop (off+τ.size)):=by
  rw[a9r,<-h3]
  exact aT.append (k4.take off) (aT.append h1 (k4.drop _))
 exact key.imp λ u y _ hy=>hy.mono (λ j _=>⟨gN j,rfl⟩) (λ _ h=>h) cw
theorem S2(cur cS:List Value)(o sz N:Nat)(hv:cS.length=sz)(hN:o+sz<=N)(hc:N<=cur.length) :
  (cur.take o++cS++cur.drop (o+sz)).take N=(cur.take N).take o++cS++(cur.take N).drop (o+sz):=by
 have h1:(cur.take o++cS).length=o+sz:=by simp[hv];omega
 rw[b1U,h1,a9d (by omega),List.take_take,Nat.min_eq_left (by omega),b1G]
theorem fw.a4V{S:Nat->Prop}{n:Nat}{d':D}{c':List Value}(hd:Rd w S d' c')(AZ:c'.length=n):∀ (ds:List D) {l:List Value} (i:Nat),fw w S ds l->(∀ d∈ds,d.size=n)->i<ds.length->fw w S (ds.set i d') (l.take (i * n)++c'++l.drop (i * n+n))
 | [],l,i,_,_,hi=>by simp at hi
 | e::ds,l,0,h,hn,_=>by
  obtain⟨c1,r,rfl,h2,h3⟩:=h
  have hc:c1.length=n:=by rw[Rd.length _ h2];exact hn _ (by simp)
  refine⟨c',r,?_,hd,h3⟩
  simp only[b1z,a9D,a8T,a9Z]
  rw[<-hc,b0B]
 | e::ds,l,i+1,h,hn,hi=>by
  obtain⟨c1,r,rfl,h2,h3⟩:=h
  have hc:c1.length=n:=by rw[Rd.length _ h2];exact hn _ (by simp)
  refine⟨c1,r.take (i * n)++c'++r.drop (i * n+n),?_,h2,fw.a4V hd AZ ds i h3 (λ d hd=>hn d (by simp[hd])) (by simpa using hi)⟩
  have e1:(i+1) * n=c1.length+i * n:=by rw[a9C,hc];omega
  rw[e1,b1U,a9d (by omega),show c1.length+i * n - c1.length=i * n by omega,b1j,List.drop_append,b0F (by omega),a8T,
   show c1.length+(i * n+n) - c1.length=i * n+n by omega]
  simp
theorem Inv.a1s(hE:bP c.P c.E)(h:Inv c G s a w){T:TypeId}{τ:Ty}{bt e:Nat}(hT:af c.E.ty T=some (τ,bt,e)){id i:Nat}{e':TypeId}{xs:List τ.den}{v:AV}{y:τ.den}{x p:Value}(bf:s.af id=some (.row e' τ xs))
  (hp:VR c G s.af w (.eY id i 0) p) (hx:VR c G s.af w v x) (hy:EV (λ _=>none) τ v=some y) :
  ∃ w',(Instr.storeAt T p x).run c.P w = .ok () w'/\Inv c G { s with aK:=(id, .row e' τ (xs.set i y))::bW id s.aK } a w':=by
 obtain⟨b,n,cap,e1,UD,UC,k1,k2,k3,rfl⟩:=hp
 rw[bf] at k2
 simp only[a8o,aB.row.injEq] at k2
 obtain⟨rfl,rfl,k2⟩:=k2
 have k2:=b1Z k2
 subst k2
 have hr:=(Lu hy hx).cells
 have vS:x.cells.toList.length=τ.size:=by
  have:=Rd.length _ hr
  rwa [show TV.aR ⟨τ,y⟩=τ.aR y from rfl,Ty.cT] at this
 have Gg:∀ u∈x.cells.toList,u.oneCell'=true:=Rd.uw (x:=y) hr
 obtain⟨l,m1,m2,m3⟩:=h.aK id _ bf
 have cO:∀ d∈xs.map τ.aR,d.size=τ.size:=by
  intro d hd
  obtain⟨z,_,rfl⟩:=a8A.1 hd
  exact Ty.cT τ z
 have hll:=fw.length _ m2 cO
 simp only[a8R] at hll
 have Cc:i * τ.size+τ.size<=xs.length * τ.size:=by
  have:=b0t τ.size (show i+1<=xs.length by omega)
  rw[a9C] at this
  omega
 rcases m1.2 with ⟨hv,_⟩|⟨g,UP,cur,hv,_,hh,QG,Y8,oq,htk⟩
 .rw[k1] at hv;cases hv
 .rw[k1] at hv
  simp only[b0g,a8o,b0x,a8F] at hv
  obtain⟨rfl,rfl,rfl⟩:=hv
  have Dq:xs.length * τ.size<=cur.toList.length:=by
   rw[a9v (xs:=cur),oq];exact b0t _ QG
  have cZ:=xg (c:=c) (l:=cur.toList) hE hT (o:=i * τ.size+0) (x:=x) (by simpa using hh) vS Gg (by omega)
  refine⟨_,cZ,?_⟩
  have cG:ah.af { s with aK:=(id, .row e' τ (xs.set i y))::bW id s.aK }=λ j=>if j=id then some (.row e' τ (xs.set i y)) else s.af j:=by
   funext j
   show af (_::bW id s.aK) j=_
   rw[dP,eZ]
   by_cases hj:j=id
   .simp[hj]
   .simp[hj];rfl
  unfold Inv
  rw[cG]
  refine bz.WD h id _ _ b bf (by rw[k1];rfl) ⟨λ hh=>(by cases hh),λ e2 n9 pW hh=>?_,(λ hh=>by cases hh),λ hh=>by cases hh⟩ rfl (λ k hk=>pN w hh k hk) rfl rfl rfl (by simp[World.setRow]) ?_
  .simp only[a8o,aB.row.injEq] at hh
   obtain⟨rfl,rfl,hh⟩:=hh
   have hh:=b1Z hh
   subst hh
   exact⟨_,_,rfl,by simp⟩
  .refine⟨(l.take (i * τ.size)++x.cells.toList++l.drop (i * τ.size+τ.size)),⟨?_, .inr ⟨b,cap,_,by simpa using k1,Nat.zero_le _,setRow_heap w b cur _ e' _ hh,by simpa using QG,Y8,?_,?_⟩⟩,?_,by simpa using m3⟩
   .rw[b0b,a8K,a8K,a8U,a9w,vS,hll];omega
   .rw[List.size_toArray,a8K,a8K,a8U,a9w,vS,<-oq,<-a9v (xs:=cur)];omega
   .simp only[b0k,b0b]
    rw[S2 _ _ _ _ _ vS Cc Dq,htk]
   .rw[b0W]
    have:=fw.a4V hr (by rw[vS]) _ i m2 cO (by simpa using k3)
    refine fw.aU (λ _ h=>h) (λ k hk=>pN w hh k λ e=>?_) _ this
    subst e
    exact (h.place id _ k bf (by rw[k1];rfl)).2.1 hk
theorem Inv.Rp(hE:bP c.P c.E)(h:Inv c G s a w){T:TypeId}{κ ε:Ty}(hT:af c.E.XZ T=some (κ,ε)){id:Nat}{f:κ.den->Option ε.den}{n:Nat}(bf:s.af id=some (.map ⟨κ,ε,f,n⟩))
  {k:κ.den} {x:ε.den} {p y z:Value} (hp:VR c G s.af w (.mp id) p) (hy:fA w G.S ⟨κ,k⟩ y) (hz:fA w G.S ⟨ε,x⟩ z) (hn:n<1000000000) :
  ∃ w',(Instr.mapUpdate T p y z).run c.P w = .ok () w'/\Inv c G { s with aK:=(id, .map ⟨κ,ε,Jr f k x,Qh (f k) n⟩)::bW id s.aK } a w':=by
 obtain⟨kT,eT,u1,u2,u3,u4,_⟩:=hE.map hT w
 obtain⟨b,es,clock,k1,k2,k3⟩:=h.aK id _ bf
 have sc:∀ {τ:Ty} {q:τ.den} {v:Value},τ.key=true->fA w G.S ⟨τ,q⟩ v->wS τ q v:=λ {τ q v} hs hv=>by
  refine wS.of (w:=w) (S:=G.S) hs ?_
  cases τ with
  | int _=>exact hv
  | bool=>exact hv
  | str=>exact hv
  | _=>cases hs
 obtain⟨es',Ri,m1,m2⟩:=k3.store (P:=c.P) u1 u2 k2 (sc u3 hy) (sc u4 hz) hn
 obtain⟨XM,_⟩:=hp
 refine⟨_,by rw[XM,k1];exact m1,?_⟩
 have cG:ah.af { s with aK:=(id, .map ⟨κ,ε,Jr f k x,Qh (f k) n⟩)::bW id s.aK }=λ i=>if i=id then some (.map ⟨κ,ε,Jr f k x,Qh (f k) n⟩) else s.af i:=by
  funext i
  show af ((id,_)::bW id s.aK) i=_
  rw[dP,eZ]
  by_cases hi:i=id
  .simp[hi]
  .simp[hi];rfl
 unfold Inv
 rw[cG]
 obtain⟨q1,q2⟩:=MapKept.heap_set (o' := .map es' Ri) k2
 refine bz.WD h id _ _ b bf (by rw[k1];rfl) ⟨λ hh=>(by cases hh),(λ e τ xs hh=>by cases hh),(λ hh=>by cases hh),λ _=>rfl⟩ rfl q2 rfl rfl rfl (by simp) ?_
 exact⟨b,es',Ri,k1,q1,m2⟩
theorem Inv.append(hE:bP c.P c.E)(h:Inv c G s a w){T:TypeId}{τ:Ty}{bt e id d:Nat}(hT:af c.E.ty T=some (.slice τ,bt,e)){xs ys:List τ.den}{y:AV}{v z:Value}(bf:s.af id=some (.row e τ xs))
  (hv:VR c G s.af w (.row id) v) (hz:VR c G s.af w y z) (hy:mS (MM s.af) (.slice τ) y=some ys) (Ds:br (xs.length+ys.length) bt) (ty:TypeId) :
  ∃ v' w' G',(Builtin.append_ #[T,T] ty #[v,z]).run c.P w = .ok v' w' /\
   Inv c G' { aC:=(s.cm id).aC.set d (.row id),aK:=(id, .row e τ (xs++ys))::bW id (s.cm id).aK } (a.put (some d) v') w':=by
 obtain⟨rfl,_,_⟩:=hv
 have hzc:C1 c G s.af w y z:=by
  refine hz.VE ?_
  cases y with
  | aW u =>
   have e:=TV.aY hy
   subst e
   rfl
  | nil=>rfl
  | row i=>rfl
  | aE i=>rfl
  | _=>cases hy
 obtain⟨l,m1,m2,m3⟩:=h.aK id _ bf
 obtain⟨v',w',news,k1,k2,k3,k4,k5,k6⟩:=PU (w:=w) (base:=0) hE hT m1 (a9J _) (ZU h.aK (GL λ _ _ h=>h) X2 hy hzc) Ds ty
 have QI:=ux m1
 have a4O:=ux k2
 obtain⟨h1,h2,h3⟩:=h.clear id
 have fD:∀ b,eV (G.η id)=some b->(c.w0.heap.size<=b\/c.X b)/\¬ G.S b/\b<w.heap.size:=λ b hb=>h.place id _ b bf hb
 have hw:∀ b,b<w.heap.size->eV (G.η id)≠some b->w'.heap[b]?=w.heap[b]?:=λ b hb fG=>k3.block b hb (by rw[QI];exact λ e=>fG e.symm)
 have cw:∀ b,St c G.S b->w'.heap[b]?=w.heap[b]?:=λ b hb=>by
  refine hw b ?_ λ e=>?_
  .rcases hb with hb|hb
   .exact h.ez b hb
   .exact a8G hb.1 h.aU.size
  .obtain⟨q1,q2,q3⟩:=fD b e
   rcases hb with hb|hb
   .exact q2 hb
   .exact q1.elim (λ q=>by omega) hb.2.1
 have a7j:∀ j τ xs b,s.af j=some (.aE τ xs)->b∈G.φ j->w'.heap[b]?=w.heap[b]?:=λ j τ xs b hj hb =>
  hw b (h.bc.pl j τ xs b hj hb).2.2.1 ((h.bc.pl j τ xs b hj hb).2.2.2 id _ bf)
 have Ce:∀ j o b,j≠id->s.af j=some o->eV (G.η j)=some b->w'.heap[b]?=w.heap[b]?:=λ j o b hj ho hb=>by
  refine hw b (h.place j o b ho hb).2.2 λ e=>?_
  exact hj (h.apart j id o _ b ho bf hb e)
 have h4:bz c ⟨G.S,G.η,G.φ⟩ (s.cm id).sl s.aC.length (λ i=>if i=id then none else (s.cm id).af i) a w':=by
  refine h1.world (S':=G.S) ⟨k3.os,k3.tape,k3.output,k3.size,λ b hb hx=>hw b hb λ e=>hx (fD b e).1⟩ (λ _ h=>h) (λ _ _=>b0w) h1.sX (λ b hb=>a8G (h1.ez b hb) k3.size) cw ?_ (λ j τ xs b hj hb=>by
   by_cases vR:j=id
   .simp[vR] at hj
   .rw[a8y vR,eE] at hj
    exact a7j j τ xs b (mJ hj) hb)
  intro j o b hj hb
  by_cases vR:j=id
  .simp[vR] at hj
  .rw[a8y vR,eE] at hj
   simp only[a9m] at hj
   obtain⟨o',cQ,_⟩:=hj
   exact Ce j o' b vR cQ hb
 have a5B:((xs++ys).length)=xs.length+ys.length:=by simp
 have h5:=bz.newObj h4 id (.row e τ (xs++ys)) v' (by simp) h2 (λ i p wX=>by
  by_cases hi:i=id
  .simp[hi] at wX
  .rw[a8y hi] at wX
   exact h3 i p wX) rfl ⟨l++news,by simpa using k2,by
    rw[b0n]
    exact fw.append _ _ (fw.aU (λ _ h=>h) (λ b hb=>cw b (.inl hb)) _ m2) (fw.aU (λ _ h=>h) (λ b hb=>cw b (.inl hb)) _ k5),by rw[a5B];exact k6⟩ rfl (.inl rfl) (λ b hb=>by
  have bS:=(k2.lt b (a4O.trans hb)).2
  have xO:eV (G.η id)=some b\/b=w.heap.size:=by
   rw[<-a4O,] at hb
   rcases k4 with q|q
   .left;rw[<-QI,<-q];exact hb
   .right;rw[q] at hb;exact (b0I hb).symm
  refine⟨?_,?_,bS,λ j p hjp QF=>?_,λ j n9 pW Mv QF=>?_⟩
  .rcases xO with q|q
   .exact (fD b q).1
   .have:=h.aU.size;omega
  .rcases xO with q|q
   .exact (fD b q).2.1
   .intro hs;have:=h.ez b hs;omega
  .by_cases vR:j=id
   .simp[vR] at hjp
   .rw[a8y vR,eE] at hjp
    simp only[a9m] at hjp
    obtain⟨o',cQ,_⟩:=hjp
    rcases xO with q|q
    .exact vR (h.apart j id o' _ b cQ bf QF q)
    .have:=(h.place j o' b cQ QF).2.2
     omega
  .by_cases vR:j=id
   .simp[vR] at Mv
   .rw[a8y vR,eE] at Mv
    obtain⟨_,_,q3,q4⟩:=h.bc.pl j n9 pW b (mJ Mv) QF
    rcases xO with q|q
    .exact q4 id _ bf q
    .omega)
 refine⟨v',w',⟨G.S,λ i=>if i=id then v' else G.η i,G.φ⟩,k1,?_⟩
 unfold Inv
 have cG:ah.af { aC:=(s.cm id).aC.set d (.row id),aK:=(id, .row e τ (xs++ys))::bW id (s.cm id).aK }=λ i=>if i=id then some (.row e τ (xs++ys)) else (if i=id then none else (s.cm id).af i):=by
  funext i
  show af (_::bW id (s.cm id).aK) i=_
  rw[dP,eZ]
  rfl
 have KK:ah.sl { aC:=(s.cm id).aC.set d (.row id),aK:=(id, .row e τ (xs++ys))::bW id (s.cm id).aK }=mZ s.aC.length (s.cm id).sl (some d) (.row id):=by
  have:=tn (s.cm id).aC d (.row id) ((id, .row e τ (xs++ys))::bW id (s.cm id).aK)
  rw[show (s.cm id).aC.length=s.aC.length from by simp[ah.cm]] at this
  exact this
 rw[KK,cG,show ({ aC:=(s.cm id).aC.set d (.row id),aK:=(id, .row e τ (xs++ys))::bW id (s.cm id).aK }:ah).aC.length=s.aC.length from by simp[ah.cm]]
 refine bz.put h5 ⟨by simp,by simp[isRow],?_⟩
 rcases k2.2 with ⟨rfl,_⟩|⟨g,cap,cur,rfl,_⟩
 .exact⟨_,_,_,rfl⟩
 .exact⟨_,_,_,rfl⟩
end
end Go.Proofs.YtmjfpcajohhbeaaGreatDoor

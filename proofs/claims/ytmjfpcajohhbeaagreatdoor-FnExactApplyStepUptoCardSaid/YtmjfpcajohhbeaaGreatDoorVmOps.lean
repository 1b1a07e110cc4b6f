/- VmTypes, VmCore, VmRead, VmOwn, VmMap, VmInv, VmEnv, VmVals, VmRuns, VmMake, VmOps. -/
import Derived.KernelRfl
import GoSem.Claim
import Derived.Orders
import Derived.Laws.AppendOwn
import Derived.Laws.OwnMore
import Derived.Below
import Derived.MapKept
import Derived.Calls
import Derived.Laws.Cells
import Derived.Laws.Slices
import Derived.Laws.Strings
import Derived.Maps.AppendAt
import Derived.IntWalk
import Derived.Laws.Small
import Derived.Laws.CopyRow
import Derived.Lib.Strings
set_option linter.all false
namespace Go.Proofs.YtmjfpcajohhbeaaGreatDoor
def b2g:=@Option.bind_eq_some_iff
def b0L:=@Option.some.injEq
def b1J:=@List.map_cons
def b2A:=@List.map_nil
def b0T:=@List.cons.injEq
def b1b:=@and_true
def b3o:=@Go.World.cell?_of_block
def b2a:=@Nat.add_mul
def b1l:=@List.length_append
def b0Z:=@List.length_cons
def b2N:=@List.getElem?_append_left
def b1K:=@List.getElem?_eq_some_iff
def b1R:=@Nat.lt_or_ge
def b2m:=@List.getElem?_append_right
def b3b:=@Nat.add_sub_cancel_left
def b0R:=@Bool.and_eq_true
def b2u:=@List.drop_drop
def b2Z:=@List.drop_left
def b4j:=@List.take_append
def b1v:=@List.take_of_length_le
def b3K:=@Nat.zero_mul
def b2S:=@List.drop_zero
def b2T:=@List.take_left
def b1V:=@List.take_zero
def b1F:=@List.nil_append
def b2W:=@Nat.zero_add
def b3V:=@List.set_cons_zero
def b1Q:=@Go.run_underlying
def b3i:=@Go.MapKept.run_getObj_map
def b4o:=@List.getElem?_cons_zero
def b3C:=@List.pairwise_cons
def b2o:=@List.mem_of_getElem?
def b4c:=@Array.toList_push
def b1x:=@List.mem_singleton
def b0Q:=@List.mem_append
def b3F:=@List.ext_getElem?
def b3G:=@List.getElem?_set
def b1q:=@if_pos
def b3v:=@List.getElem_of_mem
def b2d:=@List.getElem_mem
def b1E:=@Nat.le_refl
def b3a:=@Nat.le_trans
def b1c:=@Nat.lt_of_lt_of_le
def b1e:=@List.mem_cons
def b2L:=@Iff.rfl
def b1I:=@Array.getD_eq_getD_getElem?
def b3R:=@Array.getElem?_setIfInBounds
def b1M:=@Option.map_eq_some_iff
def b0Y:=@if_neg
def b2D:=@if_true
def b0P:=@Nat.eq_of_beq_eq_true
def b1z:=@of_decide_eq_true
def b3j:=@Go.Addr.add_lit
def b1u:=@Go.Sem.run_bind
def b1w:=@Go.Sem.run_pure
def b1j:=@Go.Result.andThen_ok
def b2I:=@Nat.add_zero
def b1X:=@List.eq_nil_of_length_eq_zero
def b1p:=@List.getElem?_eq_getElem
def b3y:=@Option.some.inj
def b1L:=@List.all_eq_true
def b2x:=@List.drop_eq_getElem_cons
def b1r:=@Nat.le_of_ble_eq_true
def b1C:=@List.length_take
def b1Y:=@List.length_drop
def b2p:=@List.getElem?_take
def b2B:=@List.getElem?_drop
def b3H:=@Nat.add_assoc
def b0S:=@List.mem_map
def b3w:=@Go.Value.pointer.injEq
def b2J:=@Go.Addr.mk.injEq
def b4p:=@eq_of_heq
def b3E:=@Int.eq_ofNat_of_zero_le
def b1d:=@Int.toNat_natCast
def b0O:=@Prod.mk.injEq
def b4C:=@Go.ByteArray.toList_eq
def b3z:=@Bool.eq_iff_iff
def b4d:=@Go.eqGuard_at_string
def b1S:=@Array.length_toList
def b1W:=@Array.getElem?_eq_getElem
def b4w:=@Array.ext'
def b0V:=@Bool.false_eq_true
def b3I:=@if_false
def b3P:=@List.take_succ_cons
def b1P:=@List.append_assoc
def b1n:=@List.length_nil
def b3p:=@List.take_length
def b2h:=@List.append_nil
def b3q:=@List.replicate_succ'
def b1o:=@List.length_map
def b3L:=@Option.map_none
def b3A:=@Option.map_some
def b4t:=@Go.run_sliceBound
def b2b:=@Nat.zero_le
def b3S:=@Go.heap_alloc_new
def b2P:=@Nat.mul_le_mul_right
def b4G:=@List.map_replicate
def b0N:=@decide_eq_true_eq
def b3k:=@List.mapM_cons
def b1U:=@Array.toArray_toList
def b2F:=@List.getElem?_map
def b2w:=@Go.Value.slice.injEq
def b2K:=@Array.toList_map
def a1r:List Nat:=[0]
inductive D where
 | int (k:IntKind) (n:Int)
 | bool (b:Bool)
 | str (s:List UInt8)
 | slice (n:Nat) (xs:List D)
 | agg (xs:List D)
 | hole
 | ptr
def mvD{α:Type}(n:Nat)(f:α->D):Option (List α)->D
 | none => .hole
 | some l => .slice n (l.map f)
inductive aY where
 | sig
 | expr
 | oExpr
 | equation
 | proofStep
 | claim
 | proof
 | reader
 | l01Reader
 deriving DecidableEq
inductive Ty where
 | int (k:IntKind)
 | bool
 | str
 | slice (t:Ty)
 | st (s:aY)
 | mv (t:Ty)
 | ptr
 deriving DecidableEq
structure aX where
 ar:Int
 bq:Int
structure J where
 au:Int
 aO:Int
 M:List (J)
structure sI where
 au:Int
 aO:Int
 M:Option (List (J))
structure aH where
 left:J
 right:J
structure O where
 use:Int
 back:Bool
 path:List (Int)
 ar:List (J)
 bo:List (J)
structure ae where
 left:J
 right:J
 cj:Int
 ref:Int
 steps:List (O)
structure aB where
 sig:aX
 aq:List (ae)
structure qq where
 text:List UInt8
 Zl:Int
structure iX where
 text:List UInt8
 Zl:Int
 a2x:Int
 bad:Bool
@[reducible] def aY.den:aY->Type
 | .sig=>aX
 | .expr=>J
 | .oExpr=>sI
 | .equation=>aH
 | .proofStep=>O
 | .claim=>ae
 | .proof=>aB
 | .reader=>qq
 | .l01Reader=>iX
@[reducible] def Ty.den:Ty->Type
 | .int _=>Int
 | .bool=>Bool
 | .str=>List UInt8
 | .slice t=>List t.den
 | .st s=>s.den
 | .mv t=>Option (List t.den)
 | .ptr=>Unit
structure TV where
 τ:Ty
 x:τ.den
def TV.Z9(τ:Ty)(v:TV):Option τ.den:=if h:v.τ=τ then some (h ▸ v.x) else none
def TV.bj{τ:Ty}{v:TV}{x:τ.den}(h:v.Z9 τ=some x):v=⟨τ,x⟩:=by
 unfold TV.Z9 at h;split at h
 .rename_i e;subst e;cases v;simp at h;subst h;rfl
 .cases h
@[simp] theorem TV.a0X(τ:Ty)(x:τ.den):TV.Z9 τ ⟨τ,x⟩=some x:=by simp[TV.Z9]
def aY.fields:(s:aY)->s.den->List TV
 | .sig,x=>[⟨.int .i64,x.ar⟩,⟨.int .i64,x.bq⟩]
 | .expr,x=>[⟨.int .i64,x.au⟩,⟨.int .i64,x.aO⟩,⟨.slice (.st .expr),x.M⟩]
 | .oExpr,x=>[⟨.int .i64,x.au⟩,⟨.int .i64,x.aO⟩,⟨.mv (.st .expr),x.M⟩]
 | .equation,x=>[⟨.st .expr,x.left⟩,⟨.st .expr,x.right⟩]
 | .proofStep,x=>[⟨.int .i64,x.use⟩,⟨.bool,x.back⟩,⟨.slice (.int .i64),x.path⟩,⟨.slice (.st .expr),x.ar⟩,⟨.slice (.st .expr),x.bo⟩]
 | .claim,x=>[⟨.st .expr,x.left⟩,⟨.st .expr,x.right⟩,⟨.int .i64,x.cj⟩,⟨.int .i64,x.ref⟩,⟨.slice (.st .proofStep),x.steps⟩]
 | .proof,x=>[⟨.st .sig,x.sig⟩,⟨.slice (.st .claim),x.aq⟩]
 | .reader,x=>[⟨.str,x.text⟩,⟨.int .i64,x.Zl⟩]
 | .l01Reader,x=>[⟨.str,x.text⟩,⟨.int .i64,x.Zl⟩,⟨.int .i64,x.a2x⟩,⟨.bool,x.bad⟩]
def aY.cells:(s:aY)->s.den->List TV
 | .sig,x=>[⟨.int .i64,x.ar⟩,⟨.int .i64,x.bq⟩]
 | .expr,x=>[⟨.int .i64,x.au⟩,⟨.int .i64,x.aO⟩,⟨.slice (.st .expr),x.M⟩]
 | .oExpr,x=>[⟨.int .i64,x.au⟩,⟨.int .i64,x.aO⟩,⟨.mv (.st .expr),x.M⟩]
 | .equation,x=>[⟨.int .i64,x.left.au⟩,⟨.int .i64,x.left.aO⟩,⟨.slice (.st .expr),x.left.M⟩,⟨.int .i64,x.right.au⟩,⟨.int .i64,x.right.aO⟩,⟨.slice (.st .expr),x.right.M⟩]
 | .proofStep,x=>[⟨.int .i64,x.use⟩,⟨.bool,x.back⟩,⟨.slice (.int .i64),x.path⟩,⟨.slice (.st .expr),x.ar⟩,⟨.slice (.st .expr),x.bo⟩]
 | .claim,x=>[⟨.int .i64,x.left.au⟩,⟨.int .i64,x.left.aO⟩,⟨.slice (.st .expr),x.left.M⟩,⟨.int .i64,x.right.au⟩,⟨.int .i64,x.right.aO⟩,⟨.slice (.st .expr),x.right.M⟩,⟨.int .i64,x.cj⟩,⟨.int .i64,x.ref⟩,⟨.slice (.st .proofStep),x.steps⟩]
 | .proof,x=>[⟨.int .i64,x.sig.ar⟩,⟨.int .i64,x.sig.bq⟩,⟨.slice (.st .claim),x.aq⟩]
 | .reader,x=>[⟨.str,x.text⟩,⟨.int .i64,x.Zl⟩]
 | .l01Reader,x=>[⟨.str,x.text⟩,⟨.int .i64,x.Zl⟩,⟨.int .i64,x.a2x⟩,⟨.bool,x.bad⟩]
def aY.size:aY->Nat
 | .sig=>2
 | .expr=>3
 | .oExpr=>3
 | .equation=>6
 | .proofStep=>5
 | .claim=>9
 | .proof=>3
 | .reader=>2
 | .l01Reader=>4
def aY.zD:aY->List Ty
 | .sig=>[.int .i64, .int .i64]
 | .expr=>[.int .i64, .int .i64, .slice (.st .expr)]
 | .oExpr=>[.int .i64, .int .i64, .mv (.st .expr)]
 | .equation=>[.int .i64, .int .i64, .slice (.st .expr), .int .i64, .int .i64, .slice (.st .expr)]
 | .proofStep=>[.int .i64, .bool, .slice (.int .i64), .slice (.st .expr), .slice (.st .expr)]
 | .claim=>[.int .i64, .int .i64, .slice (.st .expr), .int .i64, .int .i64, .slice (.st .expr), .int .i64, .int .i64, .slice (.st .proofStep)]
 | .proof=>[.int .i64, .int .i64, .slice (.st .claim)]
 | .reader=>[.str, .int .i64]
 | .l01Reader=>[.str, .int .i64, .int .i64, .bool]
def aY.jw:aY->List Ty
 | .sig=>[.int .i64, .int .i64]
 | .expr=>[.int .i64, .int .i64, .slice (.st .expr)]
 | .oExpr=>[.int .i64, .int .i64, .mv (.st .expr)]
 | .equation=>[.st .expr, .st .expr]
 | .proofStep=>[.int .i64, .bool, .slice (.int .i64), .slice (.st .expr), .slice (.st .expr)]
 | .claim=>[.st .expr, .st .expr, .int .i64, .int .i64, .slice (.st .proofStep)]
 | .proof=>[.st .sig, .slice (.st .claim)]
 | .reader=>[.str, .int .i64]
 | .l01Reader=>[.str, .int .i64, .int .i64, .bool]
def aY.ji:(s:aY)->List TV->Option s.den
 | .sig,[a0,a1]=>(a0.Z9 (.int .i64)).bind λ b0=>(a1.Z9 (.int .i64)).bind λ b1=>some (aX.mk b0 b1)
 | .expr,[a0,a1,a2]=>(a0.Z9 (.int .i64)).bind λ b0=>(a1.Z9 (.int .i64)).bind λ b1=>(a2.Z9 (.slice (.st .expr))).bind λ b2=>some (J.mk b0 b1 b2)
 | .oExpr,[a0,a1,a2]=>(a0.Z9 (.int .i64)).bind λ b0=>(a1.Z9 (.int .i64)).bind λ b1=>(a2.Z9 (.mv (.st .expr))).bind λ b2=>some (sI.mk b0 b1 b2)
 | .equation,[a0,a1,a2,a3,a4,a5]=>(a0.Z9 (.int .i64)).bind λ b0=>(a1.Z9 (.int .i64)).bind λ b1=>(a2.Z9 (.slice (.st .expr))).bind λ b2=>(a3.Z9 (.int .i64)).bind λ b3=>(a4.Z9 (.int .i64)).bind λ b4=>(a5.Z9 (.slice (.st .expr))).bind λ b5=>some (aH.mk (J.mk b0 b1 b2) (J.mk b3 b4 b5))
 | .proofStep,[a0,a1,a2,a3,a4]=>(a0.Z9 (.int .i64)).bind λ b0=>(a1.Z9 (.bool)).bind λ b1=>(a2.Z9 (.slice (.int .i64))).bind λ b2=>(a3.Z9 (.slice (.st .expr))).bind λ b3=>(a4.Z9 (.slice (.st .expr))).bind λ b4=>some (O.mk b0 b1 b2 b3 b4)
 | .claim,[a0,a1,a2,a3,a4,a5,a6,a7,a8]=>(a0.Z9 (.int .i64)).bind λ b0=>(a1.Z9 (.int .i64)).bind λ b1=>(a2.Z9 (.slice (.st .expr))).bind λ b2=>(a3.Z9 (.int .i64)).bind λ b3=>(a4.Z9 (.int .i64)).bind λ b4=>(a5.Z9 (.slice (.st .expr))).bind λ b5=>(a6.Z9 (.int .i64)).bind λ b6=>(a7.Z9 (.int .i64)).bind λ b7=>(a8.Z9 (.slice (.st .proofStep))).bind λ b8=>some (ae.mk (J.mk b0 b1 b2) (J.mk b3 b4 b5) b6 b7 b8)
 | .proof,[a0,a1,a2]=>(a0.Z9 (.int .i64)).bind λ b0=>(a1.Z9 (.int .i64)).bind λ b1=>(a2.Z9 (.slice (.st .claim))).bind λ b2=>some (aB.mk (aX.mk b0 b1) b2)
 | .reader,[a0,a1]=>(a0.Z9 (.str)).bind λ b0=>(a1.Z9 (.int .i64)).bind λ b1=>some (qq.mk b0 b1)
 | .l01Reader,[a0,a1,a2,a3]=>(a0.Z9 (.str)).bind λ b0=>(a1.Z9 (.int .i64)).bind λ b1=>(a2.Z9 (.int .i64)).bind λ b2=>(a3.Z9 (.bool)).bind λ b3=>some (iX.mk b0 b1 b2 b3)
 | _,_=>none
def aY.sF:∀ {s:aY} {l:List TV} {x:s.den},s.ji l=some x->s.cells x=l:=by
 intro s l x h;cases s;case sig =>
  match l,h with
  | [a0,a1],h =>
   simp only[aY.ji,b2g,b0L] at h;obtain⟨b0,h0,⟨b1,h1,rfl⟩⟩:=h;have e0:=TV.bj h0;have e1:=TV.bj h1;subst e0 e1;rfl
 case expr =>
  match l,h with
  | [a0,a1,a2],h =>
   simp only[aY.ji,b2g,b0L] at h;obtain⟨b0,h0,⟨b1,h1,⟨b2,h2,rfl⟩⟩⟩:=h;have e0:=TV.bj h0;have e1:=TV.bj h1;have e2:=TV.bj h2;subst e0 e1 e2;rfl
 case oExpr =>
  match l,h with
  | [a0,a1,a2],h =>
   simp only[aY.ji,b2g,b0L] at h;obtain⟨b0,h0,⟨b1,h1,⟨b2,h2,rfl⟩⟩⟩:=h;have e0:=TV.bj h0;have e1:=TV.bj h1;have e2:=TV.bj h2;subst e0 e1 e2;rfl
 case equation =>
  match l,h with
  | [a0,a1,a2,a3,a4,a5],h =>
   simp only[aY.ji,b2g,b0L] at h;obtain⟨b0,h0,⟨b1,h1,⟨b2,h2,⟨b3,h3,⟨b4,h4,⟨b5,h5,rfl⟩⟩⟩⟩⟩⟩:=h;have e0:=TV.bj h0;have e1:=TV.bj h1;have e2:=TV.bj h2;have e3:=TV.bj h3;have e4:=TV.bj h4;have e5:=TV.bj h5;subst e0 e1 e2 e3 e4 e5;rfl
 case proofStep =>
  match l,h with
  | [a0,a1,a2,a3,a4],h =>
   simp only[aY.ji,b2g,b0L] at h;obtain⟨b0,h0,⟨b1,h1,⟨b2,h2,⟨b3,h3,⟨b4,h4,rfl⟩⟩⟩⟩⟩:=h;have e0:=TV.bj h0;have e1:=TV.bj h1;have e2:=TV.bj h2;have e3:=TV.bj h3;have e4:=TV.bj h4;subst e0 e1 e2 e3 e4;rfl
 case claim =>
  match l,h with
  | [a0,a1,a2,a3,a4,a5,a6,a7,a8],h =>
   simp only[aY.ji,b2g,b0L] at h;obtain⟨b0,h0,⟨b1,h1,⟨b2,h2,⟨b3,h3,⟨b4,h4,⟨b5,h5,⟨b6,h6,⟨b7,h7,⟨b8,h8,rfl⟩⟩⟩⟩⟩⟩⟩⟩⟩:=h;have e0:=TV.bj h0;have e1:=TV.bj h1;have e2:=TV.bj h2;have e3:=TV.bj h3;have e4:=TV.bj h4;have e5:=TV.bj h5;have e6:=TV.bj h6;have e7:=TV.bj h7;have e8:=TV.bj h8;subst e0 e1 e2 e3 e4 e5 e6 e7 e8;rfl
 case proof =>
  match l,h with
  | [a0,a1,a2],h =>
   simp only[aY.ji,b2g,b0L] at h;obtain⟨b0,h0,⟨b1,h1,⟨b2,h2,rfl⟩⟩⟩:=h;have e0:=TV.bj h0;have e1:=TV.bj h1;have e2:=TV.bj h2;subst e0 e1 e2;rfl
 case reader =>
  match l,h with
  | [a0,a1],h =>
   simp only[aY.ji,b2g,b0L] at h;obtain⟨b0,h0,⟨b1,h1,rfl⟩⟩:=h;have e0:=TV.bj h0;have e1:=TV.bj h1;subst e0 e1;rfl
 case l01Reader =>
  match l,h with
  | [a0,a1,a2,a3],h =>
   simp only[aY.ji,b2g,b0L] at h;obtain⟨b0,h0,⟨b1,h1,⟨b2,h2,⟨b3,h3,rfl⟩⟩⟩⟩:=h;have e0:=TV.bj h0;have e1:=TV.bj h1;have e2:=TV.bj h2;have e3:=TV.bj h3;subst e0 e1 e2 e3;rfl
def aY.mK(s:aY)(x:s.den):(s.cells x).length=s.size:=by cases s<;>rfl
def aY.vG(s:aY)(x:s.den):(s.cells x).map TV.τ=s.zD:=by cases s<;>rfl
def aY.Bz(s:aY)(x:s.den):(s.fields x).map TV.τ=s.jw:=by cases s<;>rfl
def Ty.size:Ty->Nat
 | .st s=>s.size
 | _=>1
def TV.cells(v:TV):List TV :=
 match v with
 | ⟨.st s,x⟩=>s.cells x
 | v=>[v]
def aY.KR(s:aY)(x:s.den):s.cells x=(s.fields x).flatMap TV.cells:=by cases s<;>rfl
def aX.bc(x:aX):D := .agg [.int .i64 x.ar, .int .i64 x.bq]
mutual
def J.bc:J->D
 | ⟨au,aO,M⟩ => .agg [.int .i64 au, .int .i64 aO, .slice 3 (J.a5V M)]
def J.a5V:List J->List D
 | []=>[]
 | e::r=>e.bc::J.a5V r
end
def J.xF:∀ l,J.a5V l=l.map J.bc
 | []=>rfl
 | _::r=>congrArg _ (J.xF r)
def sI.bc(x:sI):D := .agg [.int .i64 x.au, .int .i64 x.aO,mvD 3 (λ y=>J.bc y) x.M]
def aH.bc(x:aH):D := .agg [.int .i64 x.left.au, .int .i64 x.left.aO, .slice 3 (x.left.M.map λ y=>J.bc y), .int .i64 x.right.au, .int .i64 x.right.aO, .slice 3 (x.right.M.map λ y=>J.bc y)]
def O.bc(x:O):D := .agg [.int .i64 x.use, .bool x.back, .slice 1 (x.path.map λ y => .int .i64 y), .slice 3 (x.ar.map λ y=>J.bc y), .slice 3 (x.bo.map λ y=>J.bc y)]
def ae.bc(x:ae):D := .agg [.int .i64 x.left.au, .int .i64 x.left.aO, .slice 3 (x.left.M.map λ y=>J.bc y), .int .i64 x.right.au, .int .i64 x.right.aO, .slice 3 (x.right.M.map λ y=>J.bc y), .int .i64 x.cj, .int .i64 x.ref, .slice 5 (x.steps.map λ y=>O.bc y)]
def aB.bc(x:aB):D := .agg [.int .i64 x.sig.ar, .int .i64 x.sig.bq, .slice 9 (x.aq.map λ y=>ae.bc y)]
def qq.bc(x:qq):D := .agg [.str x.text, .int .i64 x.Zl]
def iX.bc(x:iX):D := .agg [.str x.text, .int .i64 x.Zl, .int .i64 x.a2x, .bool x.bad]
def aY.bc:(s:aY)->s.den->D
 | .sig,x=>aX.bc x
 | .expr,x=>J.bc x
 | .oExpr,x=>sI.bc x
 | .equation,x=>aH.bc x
 | .proofStep,x=>O.bc x
 | .claim,x=>ae.bc x
 | .proof,x=>aB.bc x
 | .reader,x=>qq.bc x
 | .l01Reader,x=>iX.bc x
def Ty.bc:(t:Ty)->t.den->D
 | .int k,n => .int k n
 | .bool,b => .bool b
 | .str,s => .str s
 | .slice t,xs => .slice t.size (xs.map t.bc)
 | .st s,x=>s.bc x
 | .mv t,o=>mvD t.size t.bc o
 | .ptr,_ => .ptr
def TV.bc(v:TV):D:=v.τ.bc v.x
def aY.cP(s:aY)(x:s.den):s.bc x = .agg ((s.cells x).map TV.bc):=by
 cases s<;>first
  | rfl
  | (cases x;simp[aY.bc,J.bc,aY.cells,TV.bc,Ty.bc,Ty.size,aY.size,J.xF];done)
  | (simp[aY.bc,aY.cells,TV.bc,Ty.bc,Ty.size,aY.size,aX.bc,J.bc,sI.bc,aH.bc,O.bc,ae.bc,aB.bc,qq.bc,iX.bc,J.xF];done)
def aY.zero:(s:aY)->s.den
 | .sig=>(aX.mk 0 0)
 | .expr=>(J.mk 0 0 [])
 | .oExpr=>(sI.mk 0 0 none)
 | .equation=>(aH.mk (J.mk 0 0 []) (J.mk 0 0 []))
 | .proofStep=>(O.mk 0 false [] [] [])
 | .claim=>(ae.mk (J.mk 0 0 []) (J.mk 0 0 []) 0 0 [])
 | .proof=>(aB.mk (aX.mk 0 0) [])
 | .reader=>(qq.mk [] 0)
 | .l01Reader=>(iX.mk [] 0 0 false)
def Ty.zero:(t:Ty)->t.den
 | .int _=>(0:Int)
 | .bool=>false
 | .str=>([]:List UInt8)
 | .slice _=>[]
 | .st s=>s.zero
 | .mv _=>none
 | .ptr=>()
instance:Inhabited aX:=⟨aY.zero .sig⟩
def aX.eta(x:aX):aX.mk x.ar x.bq=x:=by cases x;rfl
instance:Inhabited J:=⟨aY.zero .expr⟩
def J.eta(x:J):J.mk x.au x.aO x.M=x:=by cases x;rfl
instance:Inhabited sI:=⟨aY.zero .oExpr⟩
def sI.eta(x:sI):sI.mk x.au x.aO x.M=x:=by cases x;rfl
instance:Inhabited aH:=⟨aY.zero .equation⟩
def aH.eta(x:aH):aH.mk x.left x.right=x:=by cases x;rfl
instance:Inhabited O:=⟨aY.zero .proofStep⟩
def O.eta(x:O):O.mk x.use x.back x.path x.ar x.bo=x:=by cases x;rfl
instance:Inhabited ae:=⟨aY.zero .claim⟩
def ae.eta(x:ae):ae.mk x.left x.right x.cj x.ref x.steps=x:=by cases x;rfl
instance:Inhabited aB:=⟨aY.zero .proof⟩
def aB.eta(x:aB):aB.mk x.sig x.aq=x:=by cases x;rfl
instance:Inhabited qq:=⟨aY.zero .reader⟩
def qq.eta(x:qq):qq.mk x.text x.Zl=x:=by cases x;rfl
instance:Inhabited iX:=⟨aY.zero .l01Reader⟩
def iX.eta(x:iX):iX.mk x.text x.Zl x.a2x x.bad=x:=by cases x;rfl
def ag(x:J):J:=J.mk x.au x.aO x.M
def aU(x:J):ag x=x:=by cases x;simp[ag]
def b9(x:aH):aH:=aH.mk (ag x.left) (ag x.right)
def bM(x:aH):b9 x=x:=by cases x;simp[b9,aU]
def HU(x:ae):ae:=ae.mk (ag x.left) (ag x.right) x.cj x.ref x.steps
def ct(x:ae):HU x=x:=by cases x;simp[HU,aU]
def aY.a1m:∀ (s:aY) (fl:List TV),fl.map TV.τ=s.jw->∃ x,s.fields x=fl
 | .sig,fl,h=>by
  match fl,h with
  | [⟨t0,a0⟩,⟨t1,a1⟩],h =>
   simp only[b1J,b2A,aY.jw,b0T,b1b] at h;obtain⟨rfl,rfl⟩:=h;exact⟨⟨a0,a1⟩,rfl⟩
 | .expr,fl,h=>by
  match fl,h with
  | [⟨t0,a0⟩,⟨t1,a1⟩,⟨t2,a2⟩],h =>
   simp only[b1J,b2A,aY.jw,b0T,b1b] at h;obtain⟨rfl,rfl,rfl⟩:=h;exact⟨⟨a0,a1,a2⟩,rfl⟩
 | .oExpr,fl,h=>by
  match fl,h with
  | [⟨t0,a0⟩,⟨t1,a1⟩,⟨t2,a2⟩],h =>
   simp only[b1J,b2A,aY.jw,b0T,b1b] at h;obtain⟨rfl,rfl,rfl⟩:=h;exact⟨⟨a0,a1,a2⟩,rfl⟩
 | .equation,fl,h=>by
  match fl,h with
  | [⟨t0,a0⟩,⟨t1,a1⟩],h =>
   simp only[b1J,b2A,aY.jw,b0T,b1b] at h;obtain⟨rfl,rfl⟩:=h;exact⟨⟨a0,a1⟩,rfl⟩
 | .proofStep,fl,h=>by
  match fl,h with
  | [⟨t0,a0⟩,⟨t1,a1⟩,⟨t2,a2⟩,⟨t3,a3⟩,⟨t4,a4⟩],h =>
   simp only[b1J,b2A,aY.jw,b0T,b1b] at h;obtain⟨rfl,rfl,rfl,rfl,rfl⟩:=h;exact⟨⟨a0,a1,a2,a3,a4⟩,rfl⟩
 | .claim,fl,h=>by
  match fl,h with
  | [⟨t0,a0⟩,⟨t1,a1⟩,⟨t2,a2⟩,⟨t3,a3⟩,⟨t4,a4⟩],h =>
   simp only[b1J,b2A,aY.jw,b0T,b1b] at h;obtain⟨rfl,rfl,rfl,rfl,rfl⟩:=h;exact⟨⟨a0,a1,a2,a3,a4⟩,rfl⟩
 | .proof,fl,h=>by
  match fl,h with
  | [⟨t0,a0⟩,⟨t1,a1⟩],h =>
   simp only[b1J,b2A,aY.jw,b0T,b1b] at h;obtain⟨rfl,rfl⟩:=h;exact⟨⟨a0,a1⟩,rfl⟩
 | .reader,fl,h=>by
  match fl,h with
  | [⟨t0,a0⟩,⟨t1,a1⟩],h =>
   simp only[b1J,b2A,aY.jw,b0T,b1b] at h;obtain⟨rfl,rfl⟩:=h;exact⟨⟨a0,a1⟩,rfl⟩
 | .l01Reader,fl,h=>by
  match fl,h with
  | [⟨t0,a0⟩,⟨t1,a1⟩,⟨t2,a2⟩,⟨t3,a3⟩],h =>
   simp only[b1J,b2A,aY.jw,b0T,b1b] at h;obtain⟨rfl,rfl,rfl,rfl⟩:=h;exact⟨⟨a0,a1,a2,a3⟩,rfl⟩
abbrev zE:J:=J.mk (0:Int) (0:Int) []
def af:True:=trivial
noncomputable section
@[reducible] def FN:List Ty->Ty->Type
 | [],r=>Prop×r.den
 | t::ts,r=>t.den->FN ts r
structure FV where
 ps:List Ty
 r:Ty
 F:FN ps r
def FV.Z9(ps:List Ty)(r:Ty)(v:FV):Option (FN ps r):=if h:v.ps=ps then (if k:v.r=r then some (h ▸ k ▸ v.F) else none) else none
def FV.bj{ps:List Ty}{r:Ty}{v:FV}{F:FN ps r}(h:v.Z9 ps r=some F):v=⟨ps,r,F⟩:=by
 unfold FV.Z9 at h;split at h
 .split at h
  .rename_i e k;obtain⟨ps',r',F'⟩:=v;simp only at e k;subst e k;simp at h;subst h;rfl
  .cases h
 .cases h
@[simp] theorem FV.a0X(ps:List Ty)(r:Ty)(F:FN ps r):FV.Z9 ps r ⟨ps,r,F⟩=some F:=by simp[FV.Z9]
structure MV where
 κ:Ty
 ε:Ty
 f:κ.den->Option ε.den
 n:Nat
def MV.Z9(κ ε:Ty)(m:MV):Option ((κ.den->Option ε.den)×Nat):=if h:m.κ=κ then (if k:m.ε=ε then some (h ▸ k ▸ (m.f,m.n)) else none) else none
def MV.bj{κ ε:Ty}{m:MV}{F:(κ.den->Option ε.den)×Nat}(h:m.Z9 κ ε=some F):m=⟨κ,ε,F.1,F.2⟩:=by
 unfold MV.Z9 at h;split at h
 .split at h
  .rename_i e k;obtain⟨κ',ε',f',n'⟩:=m;simp only at e k;subst e k;simp at h;subst h;rfl
  .cases h
 .cases h
@[simp] theorem MV.a0X(κ ε:Ty)(f:κ.den->Option ε.den)(n:Nat):MV.Z9 κ ε ⟨κ,ε,f,n⟩=some (f,n):=by simp[MV.Z9]
def Lj{α β:Type}(f:α->Option β)(k:α)(v:β):α->Option β:=λ x => @ite _ (x=k) (Classical.propDecidable _) (some v) (f x)
def Sq{β:Type}(o:Option β)(n:Nat):Nat:=bif o.isSome then n else n+1
inductive AV where
 | any
 | fO
 | aT (v:TV)
 | nil
 | dH (v:TV)
 | ptr (id off:Nat)
 | row (id:Nat)
 | gp (id i off:Nat)
 | agg (cs:List AV)
 | mI (vs:List AV)
 | fn (f:FuncId)
 | aD (id:Nat)
 | sub (id i off sz:Nat)
 | gQ (id i off sz:Nat)
 | dO (f:FuncId) (cs:List AV)
 | me (v:FV)
 | mp (id:Nat)
inductive aG where
 | box (cs:List AV)
 | row (e:TypeId) (τ:Ty) (xs:List τ.den)
 | aD (τ:Ty) (xs:List τ.den)
 | map (m:MV)
structure ai where
 aE:List AV
 aR:List (Nat×aG)
inductive Arg where
 | val (v:TV)
 | ref (v:TV)
 | fn (f:FuncId)
 | dO (v:FV)
 | own (v:TV)
 | box (k:Nat)
inductive CK where
 | d (τ:Ty)
 | o (τ:Ty)
 | p (k:Nat)
structure SK where
 ps:List (Option Nat)
 sh:List (List CK)
def ah{α:Type}:List (Nat×α)->Nat->Option α
 | [],_=>none
 | (k,v)::r,n=>match Nat.beq k n with
  | true=>some v
  | false=>ah r n
abbrev Vc:=Option Prop
def Vc.ok:Vc->Prop
 | .none=>True
 | .some p=>p
def Vc.and(v:Vc)(K:Prop):Prop:=match v with
 | .none=>K
 | .some p=>p/\K
def Vc.oM{v:Vc}{K:Prop}(h:v.and K):v.ok/\K:=by
 cases v with
 | none=>exact⟨af,h⟩
 | some p=>exact h
structure FQ where
 τ:Ty
 g:τ.den->Int->Vc×τ.den×Int
structure FO where
 ps:List Ty
 r:Ty
 jP:List (Bool×Ty)
def Arg.M6:Arg->Bool
 | .ref _ | .dO _ | .box _=>false
 | _=>true
inductive ZB where
 | box (cells:List TV)
 | row (e:TypeId) (τ:Ty) (xs:List τ.den)
 | res (l:List (Bool×TV))
structure Env where
 ty:List (Nat×Ty×Nat×Nat)
 pty:List (Nat×Ty)
 Qq:Nat->List Arg->Option (Vc×List TV)
 wr:List Nat:=[]
 own:List Nat:=[]
 O4:Nat->List Arg->Option (Vc×List TV):=λ _ _=>none
 mark:Nat->Option FQ:=λ _=>none
 dO:Nat->Option FO:=λ _=>none
 ro:List Nat:=[]
 tk:Nat->List Bool:=λ _=>[]
 sk:Nat->Option SK:=λ _=>none
 Ya:Nat->List Arg->List (List TV)->Option (Vc×List TV×List (List TV)):=λ _ _ _=>none
 mty:List (Nat×Ty×Ty):=[]
 VG:Nat->List Arg->Option (Vc×ZB):=λ _ _=>none
def ai.ah(s:ai)(id:Nat):Option aG:=YtmjfpcajohhbeaaGreatDoor.ah s.aR id
def UB(k:IntKind)(n:Int):Bool :=
 match n with
 | .ofNat m=>match k with
  | .i64=>Nat.ble m 9223372036854775807
  | .u64=>Nat.ble m 18446744073709551615
  | .u8=>Nat.ble m 255
  | _=>Nat.ble m 127
 | .negSucc m=>match k with
  | .i64=>Nat.ble m 9223372036854775807
  | _=>false
def N4:Value->AV
 | .int k n=>match UB k n with
  | true => .aT ⟨.int k,n⟩
  | false => .any
 | .bool b => .aT ⟨.bool,b⟩
 | .string s=>match Nat.ble s.data.size 1000000 with
  | true => .aT ⟨.str,s.data.toList⟩
  | false => .any
 | .slice none 0 0 => .nil
 | _ => .any
def ZS:Value->AV
 | .agg cs => .agg (cs.toList.map N4)
 | .tuple cs=>match Nat.beq cs.size 0 with
  | true => .fO
  | false => .any
 | v=>N4 v
def ai.eval(s:ai):Operand->AV
 | .tmp t=>s.aE.getD t .any
 | .const v=>ZS v
 | .func f => .fn f
 | .global _ => .any
def oD(lk:Nat->Option aG)(τ:Ty):AV->Option τ.den
 | .aT v=>v.Z9 τ
 | .nil=>match τ with
  | .slice _=>some []
  | _=>none
 | .row id=>match lk id with
  | some (.row _ bw xs)=>TV.Z9 τ ⟨.slice bw,xs⟩
  | _=>none
 | .aD id=>match lk id with
  | some (.aD bw xs)=>TV.Z9 τ ⟨.slice bw,xs⟩
  | _=>none
 | _=>none
def O3(lk:Nat->Option aG)(id:Nat):Option aG:=match lk id with
 | some (.aD _ _)=>none
 | o=>o
def Ui(lk:Nat->Option aG):List AV->List Ty->Option (List TV)
 | [],[]=>some []
 | c::cs,t::ts=>match oD lk t c with
  | some x=>match Ui lk cs ts with
   | some r=>some (⟨t,x⟩::r)
   | none=>none
  | none=>none
 | _,_=>none
def GJ(lk:Nat->Option aG)(τ:Ty):AV->Option τ.den
 | .agg cs=>match τ with
  | .st s=>match Ui lk cs s.zD with
   | some l=>s.ji l
   | none=>none
  | _=>none
 | v=>oD lk τ v
def AV.cell:AV->Bool
 | .any | .fO | .agg _ | .mI _ | .sub .. | .gQ .. | .dO .. | .me .. => false
 | .aT v=>match v.τ with
  | .st _=>false
  | _=>true
 | _=>true
def cellsOf(τ:Ty)(v:AV):Option (List AV) :=
 match τ with
 | .st s=>match v with
  | .aT x=>match x.Z9 (.st s) with
   | some y=>some ((s.cells y).map .aT)
   | none=>none
  | .agg cs=>match Nat.beq cs.length s.size&&cs.all AV.cell with
   | true=>some cs
   | false=>none
  | _=>none
 | _=>match v.cell with
  | true=>some [v]
  | false=>none
def Jr(cs:List AV)(off:Nat)(τ:Ty):Option AV :=
 match τ with
 | .st s=>match Nat.ble (off+s.size) cs.length with
  | true=>some (.agg ((cs.drop off).take s.size))
  | false=>none
 | _=>cs[off]?
def putCells(cs:List AV)(off:Nat)(new:List AV):Option (List AV) :=
 match Nat.ble (off+new.length) cs.length with
 | true=>some (cs.take off++(new++cs.drop (off+new.length)))
 | false=>none
def TV.part(v:TV)(off:Nat)(τ:Ty):Option TV :=
 match Nat.beq off 0&&decide (v.τ=τ) with
 | true=>some v
 | false=>match v.cells[off]? with
  | some u=>match decide (u.τ=τ) with
   | true=>some u
   | false=>none
  | none=>none
def wB(lk:Nat->Option aG)(τ:Ty):AV->Option AV
 | .dH v=>match decide (v.τ=τ) with
  | true=>some (.aT v)
  | false=>none
 | .ptr id off=>match lk id with
  | some (.box cs)=>Jr cs off τ
  | _=>none
 | .gp id i off=>match lk id with
  | some (.row _ bw xs)=>match TV.part ⟨bw,xs.getD i bw.zero⟩ off τ with
   | some u=>some (.aT u)
   | none=>none
  | _=>none
 | _=>none
def deref(lk:Nat->Option aG)(τ:Ty)(v:AV):Option τ.den :=
 match wB lk τ v with
 | some u=>GJ lk τ u
 | none=>none
def aY.iK(s:aY)(i:Nat):Nat:=((s.jw.take i).map Ty.size).sum
def zeroCell(τ:Ty):AV :=
 match τ with
 | .slice _ => .nil
 | τ => .aT ⟨τ,τ.zero⟩
def zeroCells(τ:Ty):List AV :=
 match τ with
 | .st s=>s.zD.map zeroCell
 | τ=>[zeroCell τ]
def EX(lk:Nat->Option aG):List (Bool×Ty)->List AV->Option (List Arg)
 | [],[]=>some []
 | (true,τ)::ks,v::vs=>match deref lk τ v with
  | some x=>match EX lk ks vs with
   | some r=>some (.ref ⟨τ,x⟩::r)
   | none=>none
  | none=>none
 | (false,τ)::ks,v::vs=>match GJ lk τ v with
  | some x=>match EX lk ks vs with
   | some r=>some (.val ⟨τ,x⟩::r)
   | none=>none
  | none=>none
 | _,_=>none
def Uv(E:Env)(f:FuncId)(jP:List Arg):(ps:List Ty)->(r:Ty)->List Arg->FN ps r
 | [],r,acc=>match E.Qq f (acc++jP) with
  | some (pre,[v])=>match v.Z9 r with
   | some y=>(pre.ok,y)
   | none=>(False,r.zero)
  | _=>(False,r.zero)
 | t::ts,r,acc=>λ x=>Uv E f jP ts r (acc++[.val ⟨t,x⟩])
def xJ:(ps:List Ty)->(r:Ty)->FN ps r->List Arg->Option (Prop×r.den)
 | [],_,F,[]=>some F
 | t::ts,r,F, .val a::zs=>match a.Z9 t with
  | some x=>xJ ts r (F x) zs
  | none=>none
 | _,_,_,_=>none
def N6(E:Env)(lk:Nat->Option aG):AV->Option FV
 | .dO f cs=>match E.dO f with
  | some k=>match EX lk k.jP cs with
   | some Z9=>some ⟨k.ps,k.r,Uv E f Z9 k.ps k.r []⟩
   | none=>none
  | none=>none
 | .me v=>some v
 | .fn f=>match E.dO f with
  | some k=>match k.jP with
   | []=>some ⟨k.ps,k.r,Uv E f [] k.ps k.r []⟩
   | _=>none
  | none=>none
 | _=>none
def Ug(E:Env)(lk:Nat->Option aG)(T:TypeId)(v:AV):Option Arg :=
 match ah E.ty T with
 | some (τ,_)=>match GJ lk τ v with
  | some x=>some (.val ⟨τ,x⟩)
  | none=>none
 | none=>match ah E.pty T with
  | some τ=>match deref lk τ v with
   | some x=>some (.ref ⟨τ,x⟩)
   | none=>none
  | none=>match N6 E lk v with
   | some q=>some (.dO q)
   | none=>match v with
    | .fn f=>some (.fn f)
    | _=>none
def qX(E:Env)(lk:Nat->Option aG):List TypeId->List AV->Option (List Arg)
 | [],[]=>some []
 | T::Ts,v::vs=>match Ug E lk T v with
  | some x=>match qX E lk Ts vs with
   | some r=>some (x::r)
   | none=>none
  | none=>none
 | _,_=>none
def FA:List TV->AV
 | [v] => .aT v
 | vs => .mI (vs.map .aT)
def U(n:Int):Prop := -9223372036854775808<=n/\n<=9223372036854775807
def cb(k:IntKind)(n:Int):Prop :=
 match k with
 | .i64=>U n
 | k=>k.min<=n/\n<=k.max
def aC(n:Int)(len:Nat):Prop:=0<=n/\n<(len:Int)
def cM(l h:Int)(len:Nat):Prop:=0<=l/\l<=h/\h<=(len:Int)
def ca(n m:Int)(b:Nat):Prop:=0<=n/\n<=m/\m * ((b:Int)+1)<=140737488355328
def bF(n b:Nat):Prop:=n * (b+1)<=140737488355328
def arith(op:BinOp)(k:IntKind)(a b:Int):Option (Vc×Int) :=
 match op with
 | .add=>match k with
  | .u64=>some (.none,IntKind.u64.wrap (a+b))
  | k=>some (.some (cb k (a+b)),a+b)
 | .sub=>some (.some (cb k (a - b)),a - b)
 | .mul=>match k with
  | .u64=>some (.none,IntKind.u64.wrap (a * b))
  | k=>some (.some (cb k (a * b)),a * b)
 | .quo=>some (.some (b≠0/\cb k (a.tdiv b)),a.tdiv b)
 | .rem=>some (.some (b≠0/\cb k (a.tmod b)),a.tmod b)
 | .shl=>some (.some (0<=b/\b<k.bits/\cb k (a * 2 ^ b.toNat)),a * 2 ^ b.toNat)
 | .shr=>some (.some (0<=b/\b<k.bits/\cb k (a.fdiv (2 ^ b.toNat))),a.fdiv (2 ^ b.toNat))
 | .and=>some (.some (0<=a/\0<=b/\cb k a/\cb k b),((a.toNat &&& b.toNat:Nat):Int))
 | _=>none
def cmp(op:BinOp)(a b:Int):Option Bool :=
 match op with
 | .eql=>some (decide (a=b))
 | .neq=>some (!decide (a=b))
 | .lss=>some (decide (a<b))
 | .leq=>some (decide (a<=b))
 | .gtr=>some (decide (b<a))
 | .geq=>some (decide (b<=a))
 | _=>none
def Yr(wr:Bool)(op:BinOp)(k:IntKind)(a b:Int):Option (Vc×Int) :=
 match wr with
 | true=>match op with
  | .add=>some (.none,k.wrap (a+b))
  | .sub=>some (.none,k.wrap (a - b))
  | .mul=>some (.none,k.wrap (a * b))
  | op=>arith op k a b
 | false=>arith op k a b
def a1e(tb wr:Bool)(op:BinOp)(u v:AV):Option (Vc×AV) :=
 match u,v with
 | .aT ⟨.int k,a⟩, .aT ⟨.int k',b⟩=>match Yr wr op k a b with
  | some (p,r)=>match op with
   | .shl | .shr=>some (p, .aT ⟨.int k,r⟩)
   | _=>match decide (k=k') with
    | true=>some (p, .aT ⟨.int k,r⟩)
    | false=>none
  | none=>match decide (k=k') with
   | true=>match cmp op a b with
    | some c=>some (.none, .aT ⟨.bool,c⟩)
    | none=>none
   | false=>none
 | .aT ⟨.bool,a⟩, .aT ⟨.bool,b⟩=>match tb with
  | true=>match op with
   | .eql=>some (.none, .aT ⟨.bool,a == b⟩)
   | .neq=>some (.none, .aT ⟨.bool,!(a == b)⟩)
   | _=>none
  | false=>none
 | .aT ⟨.str,a⟩, .aT ⟨.str,b⟩=>match op with
  | .eql=>some (.none, .aT ⟨.bool,decide (a=b)⟩)
  | .neq=>some (.none, .aT ⟨.bool,!decide (a=b)⟩)
  | .add=>some (.some (a.length+b.length<=140737488355328), .aT ⟨.str,a++b⟩)
  | _=>none
 | _,_=>none
def partsOf(E:Env)(s:aY)(cs:List AV):List (Nat×AV)->Option (List AV)
 | []=>some cs
 | (i,v)::r=>match s.jw[i]? with
  | some τ=>match cellsOf τ v with
   | some new=>match putCells cs (s.iK i) new with
    | some eJ=>partsOf E s eJ r
    | none=>none
   | none=>none
  | none=>none
def wR(τ:Ty):Nat->List (Nat×AV)->Option (List τ.den)
 | _,[]=>some []
 | n,(
    i,v)::r=>match Nat.beq i n with
  | true=>match GJ (λ _=>none) τ v with
   | some x=>match wR τ (n+1) r with
    | some xs=>some (x::xs)
    | none=>none
   | none=>none
  | false=>none
def TV.flat(v:TV):Bool:=v.cells.all λ u=>match u.τ with
 | .slice _=>false
 | .mv _=>false
 | _=>true
def ur(d:Int):Option AV->Option Int
 | none=>some d
 | some (.aT ⟨.int _,n⟩)=>some n
 | _=>none
def wF(lk:Nat->Option aG)(id:Nat):Option aG:=match lk id with
 | some (.box cs)=>some (.box cs)
 | _=>none
def Jl(E:Env)(lk:Nat->Option aG)(f:FuncId)(Ts:List TypeId)(vs:List AV):Option (Vc×AV×Option aG) :=
 match qX E (wF lk) Ts vs with
 | some Z9=>match E.Qq f Z9 with
  | some (pre,res)=>some (pre,FA res,none)
  | none=>none
 | none=>match qX E lk Ts vs with
  | some Z9=>match E.Qq f Z9 with
   | some (pre,res)=>match res.all TV.flat with
    | true=>some (pre,FA res,none)
    | false=>none
   | none=>none
  | none=>none
def DG(E:Env)(lk:Nat->Option aG)(g:AV)(Ts:List TypeId)(vs:List AV):Option (Vc×AV×Option aG) :=
 match (match qX E (wF lk) Ts vs with
  | some Z9=>match N6 E (wF lk) g with
   | some q=>match xJ q.ps q.r q.F Z9 with
    | some (pre,y)=>some (some pre,FA [⟨q.r,y⟩],none)
    | none=>none
   | none=>none
  | none=>none) with
 | some r=>some r
 | none=>match qX E lk Ts vs with
  | some Z9=>match N6 E lk g with
   | some q=>match xJ q.ps q.r q.F Z9 with
    | some (pre,y)=>match TV.flat ⟨q.r,y⟩ with
     | true=>some (some pre,FA [⟨q.r,y⟩],none)
     | false=>none
    | none=>none
   | none=>none
  | none=>none
def AV.a4I:AV->Bool
 | .fO | .mI _ | .dO .. | .me .. | .sub .. | .gQ .. => false
 | _=>true
def Ze(E:Env)(op:BinOp)(T:TypeId)(u v:AV):Option (Vc×AV) :=
 match ah E.ty T,u,v with
 | some (.slice _,_), .aT ⟨.slice _,xs⟩, .nil=>match op with
  | .eql=>some (.some (1<=xs.length), .aT ⟨.bool,false⟩)
  | .neq=>some (.some (1<=xs.length), .aT ⟨.bool,true⟩)
  | _=>none
 | _,_,_=>none
def MY(E:Env)(lk:Nat->Option aG)(ev:Operand->AV)(o:Oper):Option (Vc×AV×Option aG) :=
 match o.op with
 | .move x=>some (.none,ev x,none)
 | .assign x=>some (.none,ev x,none)
 | .pick c a b=>match ev c with
  | .aT ⟨.bool,true⟩=>some (.none,ev a,none)
  | .aT ⟨.bool,false⟩=>some (.none,ev b,none)
  | _=>none
 | .alloc T=>match o.dst,ah E.ty T with
  | some d,some (τ,_)=>some (.none, .ptr d 0,some (.box (zeroCells τ)))
  | _,_=>none
 | .box T x=>match o.dst,ah E.ty T with
  | some d,some (τ,_)=>match E.ro.contains d with
   | true=>match GJ (λ _=>none) τ (ev x) with
    | some y=>some (.none, .dH ⟨τ,y⟩,none)
    | none=>none
   | false=>match cellsOf τ (ev x) with
    | some cs=>some (.none, .ptr d 0,some (.box cs))
    | none=>none
  | _,_=>none
 | .build T parts=>match ah E.ty T with
  | some (.st n,_)=>match partsOf E n (zeroCells (.st n)) (parts.toList.map λ p=>(p.1,ev p.2)) with
   | some cs=>some (.none, .agg cs,none)
   | none=>none
  | _=>none
 | .buildSlice T len parts=>match o.dst,ah E.ty T with
  | some d,some (.slice τ,_,e)=>match Nat.beq parts.size len&&Nat.ble len 1000 with
   | true=>match wR τ 0 (parts.toList.map λ p=>(p.1,ev p.2)) with
    | some xs=>match E.ro.contains d with
     | true=>some (.none, .aT ⟨.slice τ,xs⟩,none)
     | false=>some (.none, .row d,some (.row e τ xs))
    | none=>none
   | false=>none
  | _,_=>none
 | .load T a=>match ah E.ty T with
  | some (τ,_)=>match wB lk τ (ev a) with
   | some v=>some (.none,v,none)
   | none=>none
  | none=>none
 | .nilCheck x=>match ev x with
  | .dH v=>some (.none, .dH v,none)
  | .ptr id off=>some (.none, .ptr id off,none)
  | .gp id i off=>some (.none, .gp id i off,none)
  | _=>none
 | .fieldAddr T x i=>match ah E.ty T with
  | some (.st n,_)=>match ev x with
   | .dH v=>match v.Z9 (.st n) with
    | some y=>match (n.fields y)[i]? with
     | some f=>some (.none, .dH f,none)
     | none=>none
    | none=>none
   | .ptr id off=>match Nat.blt i n.jw.length with
    | true=>some (.none, .ptr id (off+n.iK i),none)
    | false=>none
   | .gp id k off=>match Nat.blt i n.jw.length with
    | true=>some (.none, .gp id k (off+n.iK i),none)
    | false=>none
   | _=>none
  | _=>none
 | .field T x i=>match ah E.ty T with
  | some (.st n,_)=>match ev x with
   | .aT v=>match v.Z9 (.st n) with
    | some y=>match (n.fields y)[i]? with
     | some f=>some (.none, .aT f,none)
     | none=>none
    | none=>none
   | .agg cs=>match n.jw[i]? with
    | some τ=>match Jr cs (n.iK i) τ with
     | some v=>some (.none,v,none)
     | none=>none
    | none=>none
   | _=>none
  | _=>none
 | .indexAddr T x ix=>match ah E.ty T with
  | some (
      .slice τ,_)=>match ev ix with
   | .aT ⟨.int _,n⟩=>match ev x with
    | .aT v=>match v.Z9 (.slice τ) with
     | some xs=>some (.some (aC n xs.length), .dH ⟨τ,xs.getD n.toNat τ.zero⟩,none)
     | none=>none
    | .row id=>match lk id with
     | some (.row _ bw xs)=>match decide (bw=τ) with
      | true=>some (.some (aC n xs.length), .gp id n.toNat 0,none)
      | false=>none
     | _=>none
    | _=>none
   | _=>none
  | _=>none
 | .index T x ix=>match ah E.ty T with
  | some (.str,_)=>match ev ix with
   | .aT ⟨.int _,n⟩=>match ev x with
    | .aT ⟨.str,xs⟩=>some (.some (aC n xs.length), .aT ⟨.int .u8,((xs.getD n.toNat 0).toNat:Int)⟩,none)
    | _=>none
   | _=>none
  | _=>none
 | .binOp op T x y _=>match Ze E op T (ev x) (ev y) with
  | some (p,v)=>some (p,v,none)
  | none=>match a1e (match ah E.ty T with
   | some (.bool,_)=>true
   | _=>false) (match o.dst with
   | some d=>E.wr.contains d
   | none=>false) op (ev x) (ev y) with
   | some (p,v)=>some (p,v,none)
   | none=>none
 | .unOp op _ x=>match op,ev x with
  | .not, .aT ⟨.bool,b⟩=>some (.none, .aT ⟨.bool,!b⟩,none)
  | .neg, .aT ⟨.int k,n⟩=>some (.some (cb k (-n)), .aT ⟨.int k,-n⟩,none)
  | _,_=>none
 | .convert src dst x=>match ah E.ty src,ah E.ty dst with
  | some (.int _,_),some (.int k,_)=>match ev x with
   | .aT ⟨.int _,n⟩=>some (.some (cb k n), .aT ⟨.int k,n⟩,none)
   | _=>none
  | _,_=>none
 | .slice T x lo hi mx=>match ah E.ty T,mx with
  | some (.slice τ,_),none=>match ev x with
   | .aT v=>match v.Z9 (.slice τ) with
    | some xs=>match ur 0 (lo.map ev),ur (xs.length:Int) (hi.map ev) with
     | some l,some h=>some (.some (cM l h xs.length), .aT ⟨.slice τ,(xs.take h.toNat).drop l.toNat⟩,none)
     | _,_=>none
    | none=>none
   | _=>none
  | some (.str,_),none=>match ev x with
   | .aT ⟨.str,xs⟩=>match ur 0 (lo.map ev),ur (xs.length:Int) (hi.map ev) with
    | some l,some h=>some (.some (cM l h xs.length), .aT ⟨.str,(xs.take h.toNat).drop l.toNat⟩,none)
    | _,_=>none
   | _=>none
  | _,_=>none
 | .extract t i=>match ev t with
  | .mI vs=>match vs[i]? with
   | some v=>some (.none,v,none)
   | none=>none
  | _=>none
 | .makeSlice T l c=>match o.dst,ah E.ty T with
  | some d,some (.slice τ,b,e)=>match ev l,ev c with
   | .aT ⟨.int .i64,n⟩, .aT ⟨.int .i64,m⟩=>some (.some (ca n m b), .row d,some (.row e τ (List.replicate n.toNat τ.zero)))
   | _,_=>none
  | _,_=>none
 | .call c=>match c.callee with
  | .builtin .len=>match c.argTypes.toList,c.args.toList.map ev with
   | [T],[v]=>match ah E.ty T with
    | some (.slice _,_)=>match v with
     | .nil=>some (.none, .aT ⟨.int .i64,(0:Int)⟩,none)
     | .aT ⟨.slice _,xs⟩=>some (.none, .aT ⟨.int .i64,(xs.length:Int)⟩,none)
     | .row id=>match lk id with
      | some (.row _ _ xs)=>some (.none, .aT ⟨.int .i64,(xs.length:Int)⟩,none)
      | _=>none
     | _=>none
    | some (.str,_)=>match v with
     | .aT ⟨.str,xs⟩=>some (.none, .aT ⟨.int .i64,(xs.length:Int)⟩,none)
     | _=>none
    | none=>match v,ah E.mty T with
     | .mp _,some _=>none
     | _,_=>none
    | _=>none
   | _,_=>none
  | .builtin .append=>match o.dst,c.argTypes.toList with
   | some d,[T,T']=>match Nat.beq T T',ah E.ty T with
    | true,some (.slice τ,b,e)=>match c.args.toList.map ev with
     | [.nil,y]=>match oD (O3 lk) (.slice τ) y with
      | some ys=>some (.some (bF ys.length b), .row d,some (.row e τ ys))
      | none=>none
     | _=>none
    | _,_=>none
   | _,_=>none
  | .builtin .max=>match c.args.toList.map ev with
   | [.aT ⟨.int k,m⟩, .aT ⟨.int k',n⟩]=>match decide (k'=k) with
    | true=>some (.none, .aT ⟨.int k,(max m n:Int)⟩,none)
    | false=>none
   | _=>none
  | .value (.func f)=>Jl E lk f c.argTypes.toList (c.args.toList.map ev)
  | .value (.tmp t)=>match ev (.tmp t) with
   | .fn f=>Jl E lk f c.argTypes.toList (c.args.toList.map ev)
   | .dO f cs=>DG E lk (.dO f cs) c.argTypes.toList (c.args.toList.map ev)
   | .me v=>DG E lk (.me v) c.argTypes.toList (c.args.toList.map ev)
   | _=>none
  | _=>none
 | .makeMap _ none=>none
 | .lookup _ _ _ _=>none
 | .makeFunc fn first captured=>match fn,first.toList,(captured.toList.map ev).all AV.a4I with
  | .func f,[],true=>match captured.toList.map ev with
   | []=>some (.none, .fn f,none)
   | cs=>some (.none, .dO f cs,none)
  | _,_,_=>none
 | _=>none
mutual
def AV.refs(id:Nat):AV->Bool
 | .ptr i _=>Nat.beq i id
 | .row i=>Nat.beq i id
 | .gp i _ _=>Nat.beq i id
 | .aD i=>Nat.beq i id
 | .sub i _ _ _=>Nat.beq i id
 | .gQ i _ _ _=>Nat.beq i id
 | .mp i=>Nat.beq i id
 | .agg cs=>AV.jJ id cs
 | .mI cs=>AV.jJ id cs
 | .dO _ cs=>AV.jJ id cs
 | _=>false
def AV.jJ(id:Nat):List AV->Bool
 | []=>false
 | v::r=>match AV.refs id v with
  | true=>true
  | false=>AV.jJ id r
end
def AV.kill(id:Nat)(v:AV):AV:=match v.refs id with
 | true => .any
 | false=>v
def aG.kill(id:Nat):aG->aG
 | .box cs => .box (cs.map (AV.kill id))
 | o=>o
def ai.cF(s:ai)(id:Nat):ai :=
 { aE:=s.aE.map (AV.kill id),aR:=s.aR.map λ p=>(p.1,p.2.kill id) }
def cf(id:Nat):List (Nat×aG)->List (Nat×aG)
 | []=>[]
 | (k,o)::r=>match Nat.beq k id with
  | true=>cf id r
  | false=>(k,o)::cf id r
def ai.put(s:ai)(d:Option Nat)(v:AV):ai :=
 match d with
 | some d=>{ s with aE:=s.aE.set d v }
 | none=>s
def ai.lay(s:ai)(d:Option Nat)(v:AV)(o:Option aG):ai :=
 match o,d with
 | some o,some d =>
  let s':=s.cF d;{ aE:=s'.aE.set d v,aR:=(d,o.kill d)::cf d s'.aR }
 | _,d=>s.put d v
mutual
def AV.rows:AV->List Nat
 | .row i=>[i]
 | .agg cs=>AV.a1X cs
 | _=>[]
def AV.a1X:List AV->List Nat
 | []=>[]
 | v::r=>AV.rows v++AV.a1X r
end
def Xi(s:ai)(v:AV):List Nat :=
 match v with
 | .ptr id _=>match s.ah id with
  | some (.box cs)=>AV.a1X cs
  | _=>[]
 | v=>v.rows
def a4r(s:ai)(v:AV):List Nat :=
 match v with
 | .dO _ cs=>cs.flatMap (Xi s)
 | v=>Xi s v
def pU(E:Env)(s:ai)(o:Oper):List Nat :=
 match (match o.dst with
  | some d=>E.own.contains d
  | none=>false) with
 | true=>[]
 | false=>match o.op with
 | .buildSlice _ _ parts=>parts.toList.flatMap λ p=>(s.eval p.2).rows
 | .slice _ x _ _ _=>(s.eval x).rows
 | .store _ a x=>match s.eval a with
  | .gp _ _ _=>(s.eval x).rows
  | _=>[]
 | .call c=>match c.callee with
  | .value _=>match E.Qq (match c.callee with
    | .value (.func f)=>f
    | .value (.tmp t)=>match s.eval (.tmp t) with
     | .fn f=>f
     | _=>0
    | _=>0) (match qX E s.ah c.argTypes.toList (c.args.toList.map s.eval) with
     | some Z9=>Z9
     | none=>[]) with
   | some (_,res)=>match res.all TV.flat with
    | true=>[]
    | false=>c.args.toList.flatMap λ x=>a4r s (s.eval x)
   | none=>[]
  | _=>[]
 | _=>[]
mutual
def AV.J1(id:Nat)(u:AV):AV->AV
 | .row i=>match Nat.beq i id with
  | true=>u
  | false => .row i
 | .gp i k off=>match Nat.beq i id with
  | true => .any
  | false => .gp i k off
 | .agg cs => .agg (AV.US id u cs)
 | .mI cs => .mI (AV.US id u cs)
 | .dO f cs => .dO f (AV.US id u cs)
 | v=>v
def AV.US(id:Nat)(u:AV):List AV->List AV
 | []=>[]
 | v::r=>AV.J1 id u v::AV.US id u r
end
def aG.J1(id:Nat)(u:AV):aG->aG
 | .box cs => .box (AV.US id u cs)
 | o=>o
mutual
def AV.GP(id:Nat)(u:AV):AV->AV
 | .aD i=>match Nat.beq i id with
  | true=>u
  | false => .aD i
 | .sub i k off z=>match Nat.beq i id with
  | true => .any
  | false => .sub i k off z
 | .gQ i k off z=>match Nat.beq i id with
  | true => .any
  | false => .gQ i k off z
 | .agg cs => .agg (AV.UR id u cs)
 | .mI cs => .mI (AV.UR id u cs)
 | .dO f cs => .dO f (AV.UR id u cs)
 | v=>v
def AV.UR(id:Nat)(u:AV):List AV->List AV
 | []=>[]
 | v::r=>AV.GP id u v::AV.UR id u r
end
def aG.GP(id:Nat)(u:AV):aG->aG
 | .box cs => .box (AV.UR id u cs)
 | o=>o
def ai.freeze(s:ai)(id:Nat):ai :=
 match s.ah id with
 | some (.row _ τ xs) =>
  { aE:=AV.US id (.aT ⟨.slice τ,xs⟩) s.aE,aR:=(cf id s.aR).map λ p=>(p.1,p.2.J1 id (.aT ⟨.slice τ,xs⟩)) }
 | some (.aD τ xs) =>
  { aE:=AV.UR id (.aT ⟨.slice τ,xs⟩) s.aE,aR:=(cf id s.aR).map λ p=>(p.1,p.2.GP id (.aT ⟨.slice τ,xs⟩)) }
 | _=>s
def TP(_:Env)(_:ai)(_:Option Nat)(_:TypeId)(_ _ _:Operand):Option (Vc×ai):=none
def YB(E:Env)(s:ai)(o:Oper):Option (Vc×ai) :=
 match o.op with
 | .mapUpdate T m k x=>TP E s o.dst T m k x
 | .insert T m k x=>TP E s o.dst T m k x
 | .store T a x=>match ah E.ty T with
  | some (
      τ,_)=>match s.eval a with
   | .ptr id off=>match s.ah id with
    | some (.box cs)=>match cellsOf τ (s.eval x) with
     | some new=>match putCells cs off new with
      | some eJ=>some (.none,{ s with aR:=(id, .box eJ)::cf id s.aR }.put o.dst .any)
      | none=>none
     | none=>none
    | _=>none
   | .gp id i 0=>match s.ah id with
    | some (.row e' bw xs)=>match decide (bw=τ),GJ (λ _=>none) bw (s.eval x) with
     | true,some x=>some (.none,{ s with aR:=(id, .row e' bw (xs.set i x))::cf id s.aR }.put o.dst .any)
     | _,_=>none
    | _=>none
   | _=>none
  | none=>none
 | .call c=>match c.callee with
  | .builtin .append=>match o.dst,c.argTypes.toList with
   | some d,[T,T']=>match Nat.beq T T',ah E.ty T with
    | true,some (.slice τ,b,e)=>match c.args.toList.map s.eval with
     | [.row id,y]=>match s.ah id,oD (O3 s.ah) (.slice τ) y with
      | some (.row e' bw xs),some ys=>match Nat.beq e' e,TV.Z9 (.slice τ) ⟨.slice bw,xs⟩ with
       | true,some dw =>
        let s':=s.cF id;some (.some (bF (dw.length+ys.length) b),{ aE:=s'.aE.set d (.row id),aR:=(id, .row e τ (dw++ys))::cf id s'.aR })
       | _,_=>none
      | _,_=>none
     | _=>none
    | _,_=>none
   | _,_=>none
  | _=>none
 | _=>none
def nodupB:List Nat->Bool
 | []=>true
 | a::r=>match r.contains a with
  | true=>false
  | false=>nodupB r
def cN:Option aG->Bool
 | some (.aD ..)=>true
 | _=>false
def mF(id:Nat):TV->AV
 | ⟨.slice _,_⟩ => .aD id
 | ⟨.mv _,_⟩ => .any
 | u => .aT u
def iW(id:Nat):TV->List (Nat×aG)
 | ⟨.slice τ,xs⟩=>[(id, .aD τ xs)]
 | _=>[]
def cz:Nat->List TV->List AV
 | _,[]=>[]
 | id,u::r=>mF id u::cz (id+1) r
def cw:Nat->List TV->List (Nat×aG)
 | _,[]=>[]
 | id,u::r=>iW id u++cw (id+1) r
def gZ(id:Nat):TV->AV
 | ⟨.st s,y⟩ => .agg (cz id (s.cells y))
 | v=>mF id v
def Pq:Nat->List TV->List AV
 | _,[]=>[]
 | id,v::r=>gZ id v::Pq (id+20) r
def bJ:Nat->List TV->List (Nat×aG)
 | _,[]=>[]
 | id,v::r=>cw id v.cells++bJ (id+20) r
def o8(id:Nat):List TV->AV
 | [v]=>gZ id v
 | vs => .mI (Pq id vs)
def Ty.agg:Ty->Bool
 | .st _=>true
 | _=>false
def Ty.Cn:Ty->Bool
 | .int _ | .bool | .str | .ptr=>true
 | _=>false
def Ty.key:Ty->Bool
 | .int _ | .bool | .str=>true
 | _=>false
def Ty.plain:Ty->Bool
 | .st s=>s.zD.all Ty.Cn
 | .slice _=>false
 | .mv _=>false
 | _=>true
def fF(lk:Nat->Option aG)(τ:Ty):AV->Option (τ.den×List Nat)
 | .aT v=>match τ.Cn,v.Z9 τ with
  | true,some y=>some (y,[])
  | _,_=>none
 | .nil=>match τ with
  | .slice _=>some ([],[])
  | _=>none
 | .aD id=>match lk id with
  | some (.aD bw xs)=>match TV.Z9 τ ⟨.slice bw,xs⟩ with
   | some y=>some (y,[id])
   | none=>none
  | _=>none
 | .row id=>match lk id with
  | some (.row _ bw xs)=>match bw.plain,TV.Z9 τ ⟨.slice bw,xs⟩ with
   | true,some y=>some (y,[id])
   | _,_=>none
  | _=>none
 | _=>none
def wH(lk:Nat->Option aG):List AV->List Ty->Option (List TV×List Nat)
 | [],[]=>some ([],[])
 | c::cs,t::ts=>match fF lk t c with
  | some (x,i)=>match wH lk cs ts with
   | some (r,j)=>some (⟨t,x⟩::r,i++j)
   | none=>none
  | none=>none
 | _,_=>none
def vm(lk:Nat->Option aG)(τ:Ty):AV->Option (τ.den×List Nat)
 | .agg cs=>match τ with
  | .st s=>match wH lk cs s.zD with
   | some (l,ids)=>match s.ji l with
    | some y=>some (y,ids)
    | none=>none
   | none=>none
  | _=>none
 | v=>fF lk τ v
mutual
def AV.PC:AV->Bool
 | .sub .. => true
 | .agg cs=>AV.tA cs
 | .mI cs=>AV.tA cs
 | .dO _ cs=>AV.tA cs
 | _=>false
def AV.tA:List AV->Bool
 | []=>false
 | v::r=>match AV.PC v with
  | true=>true
  | false=>AV.tA r
end
def AV.dM(v:AV):AV:=match v.PC with
 | true => .any
 | false=>v
def aG.dM:aG->aG
 | .box cs => .box (cs.map AV.dM)
 | o=>o
def ai.cv(s:ai):ai:={ aE:=s.aE.map AV.dM,aR:=s.aR.map λ p=>(p.1,p.2.dM) }
def ai.eQ(s:ai)(id:Nat)(τ:Ty)(xs:List τ.den):ai :=
 { s with aR:=(id, .aD τ xs)::cf id s.aR }
def ai.gone(s:ai)(id:Nat):ai :=
 let s':=s.cF id
 { s' with aR:=cf id s'.aR }
def ai.kM(s:ai):List AV->List TV->ai
 | .aD id::cs,⟨.slice τ,xs⟩::us=>(s.eQ id τ xs).kM cs us
 | _::cs,_::us=>s.kM cs us
 | _,_=>s
def pI(τ:Ty)(x:τ.den)(off:Nat)(u:TV):Option τ.den :=
 match τ with
 | .st s=>match (s.cells x)[off]? with
  | some v=>match decide (v.τ=u.τ) with
   | true=>s.ji ((s.cells x).set off u)
   | false=>none
  | none=>none
 | τ=>match Nat.beq off 0 with
  | true=>u.Z9 τ
  | false=>none
def Ty.full:Ty->Ty
 | .mv t => .slice t
 | t=>t
def Ty.a7z:Ty->Ty->Bool
 | .st p, .st q=>decide (p.zD.map Ty.full=q.zD)
 | _,_=>false
def Ty.TQ:Ty->Bool
 | .mv _=>true
 | t=>t.Cn
def a1q:TV->TV
 | ⟨.mv t,o⟩=>⟨.slice t,Option.getD (α:=List t.den) o []⟩
 | u=>u
def YA:TV->TV
 | ⟨.mv t,_⟩=>⟨.mv t,(none:Option (List t.den))⟩
 | u=>u
def Dj:List TV->Prop
 | []=>True
 | ⟨.mv t,o⟩::r=>Option.isSome (α:=List t.den) o=true/\Dj r
 | _::r=>Dj r
def a2L(s:ai)(d:Nat)(m:FQ)(vs:List AV):Option (Vc×ai):=match vs with
 | [.aD id, .aT ⟨.int .i64,n⟩]=>match s.ah id with
  | some (.aD τ xs)=>match TV.Z9 m.τ ⟨.slice τ,xs⟩ with
   | some x=>match TV.Z9 (.slice τ) ⟨m.τ,(m.g x n).2.1⟩ with
    | some dw=>some ((m.g x n).1,(s.cv.eQ id τ dw).put (some d) (.aT ⟨.int .i64,(m.g x n).2.2⟩))
    | none=>none
   | none=>none
  | _=>none
 | [.sub id i off sz, .aT ⟨.int .i64,n⟩]=>match s.ah id with
  | some (.aD τ xs)=>match TV.part ⟨τ,xs.getD i τ.zero⟩ off m.τ with
   | some u=>match u.Z9 m.τ,Nat.beq τ.size sz&&(!m.τ.agg&&Nat.blt off τ.size) with
    | some x,true=>match pI τ (xs.getD i τ.zero) off ⟨m.τ,(m.g x n).2.1⟩ with
     | some y=>some ((m.g x n).1,(s.cv.eQ id τ (xs.set i y)).put (some d) (.aT ⟨.int .i64,(m.g x n).2.2⟩))
     | none=>none
    | _,_=>none
   | none=>none
  | _=>none
 | [.agg cs, .aT ⟨.int .i64,n⟩]=>match vm s.ah m.τ (.agg cs) with
  | some (x,ids)=>match nodupB ids&&ids.all λ id=>cN (s.ah id) with
   | true=>some ((m.g x n).1,(s.cv.kM cs (TV.cells ⟨m.τ,(m.g x n).2.1⟩)).put (some d) (.aT ⟨.int .i64,(m.g x n).2.2⟩))
   | false=>none
  | none=>none
 | _=>none
def Zi(E:Env)(s:ai)(o:Oper):Option (Vc×ai) :=
 match o.op with
 | .indexAddr T x ix=>match ah E.ty T with
  | some (.slice τ,_)=>match s.eval ix,s.eval x with
   | .aT ⟨.int _,n⟩, .aD id=>match s.ah id with
    | some (.aD bw xs)=>match decide (bw=τ)||bw.a7z τ with
     | true=>some (.some (aC n xs.length),s.put o.dst (.gQ id n.toNat 0 τ.size))
     | false=>none
    | _=>none
   | _,_=>none
  | _=>none
 | .fieldAddr T x i=>match ah E.ty T with
  | some (.st n,_)=>match s.eval x with
   | .gQ id k off sz=>match Nat.blt i n.jw.length with
    | true=>some (.none,s.put o.dst (.gQ id k (off+n.iK i) sz))
    | false=>none
   | _=>none
  | _=>none
 | .load T ad=>match ah E.ty T with
  | some (
      τ,_)=>match s.eval ad with
   | .gQ id i off sz=>match s.ah id with
    | some (.aD bw xs)=>match TV.part ⟨bw,xs.getD i bw.zero⟩ off τ,Nat.beq bw.size sz&&(!τ.agg&&Nat.blt off bw.size) with
     | some u,true=>match τ.Cn with
      | true=>some (.none,s.put o.dst (.aT u))
      | false=>some (.none,s.put o.dst (.sub id i off sz))
     | _,_=>none
    | _=>none
   | _=>none
  | none=>none
 | .store T ad x=>match ah E.ty T with
  | some (
      τ,_)=>match s.eval ad with
   | .gQ id i off sz=>match s.ah id with
    | some (
        .aD bw xs)=>match Nat.beq bw.size sz&&Nat.blt off bw.size with
     | true=>match τ.Cn with
      | true=>match fF (λ _=>none) τ (s.eval x) with
       | some (u,_)=>match TV.part ⟨bw,xs.getD i bw.zero⟩ off τ,pI bw (xs.getD i bw.zero) off ⟨τ,u⟩ with
        | some _,some y=>some (.none,(s.cv.eQ id bw (xs.set i y)).put o.dst .any)
        | _,_=>none
       | none=>none
      | false=>match Nat.beq off 0,vm s.ah τ (s.eval x) with
       | true,some (y,ids)=>match nodupB (id::ids),TV.Z9 bw ⟨τ,y⟩ with
        | true,some y'=>some (.none,((ids.foldl ai.gone s).cv.eQ id bw (xs.set i y')).put o.dst .any)
        | _,_=>none
       | _,_=>none
     | false=>none
    | _=>none
   | _=>none
  | none=>none
 | .makeSlice T l cc=>match o.dst,ah E.ty T with
  | some d,some (.slice τ,b,_)=>match E.own.contains d&&Nat.blt d 50 with
   | true=>match s.eval l,s.eval cc with
    | .aT ⟨.int .i64,n⟩, .aT ⟨.int .i64,m⟩=>some (.some (ca n m b),{ aE:=(s.gone d).aE.set d (.aD d),aR:=(d, .aD τ (List.replicate n.toNat τ.zero))::(s.gone d).aR })
    | _,_=>none
   | false=>none
  | _,_=>none
 | .call c=>match c.callee with
  | .builtin .len=>match c.argTypes.toList,c.args.toList.map s.eval with
   | [T],[.aD id]=>match ah E.ty T,s.ah id with
    | some (.slice _,_),some (.aD _ xs)=>some (.none,s.put o.dst (.aT ⟨.int .i64,(xs.length:Int)⟩))
    | _,_=>none
   | _,_=>none
  | .value (
       .func f)=>match o.dst with
   | some d=>match E.own.contains d with
    | true=>match E.mark f with
     | some m=>a2L s d m (c.args.toList.map s.eval)
     | none=>match qX E s.ah c.argTypes.toList (c.args.toList.map s.eval) with
      | some Z9=>match E.O4 f Z9 with
       | some (pre,res)=>match ((bJ (100 * (d+1)) res).all λ p=>(s.ah p.1).isNone)&&nodupB ((bJ (100 * (d+1)) res).map (·.1)) with
        | true=>some (pre,{ aE:=s.aE.set d (o8 (100 * (d+1)) res),aR:=bJ (100 * (d+1)) res++s.aR })
        | false=>none
       | none=>none
      | none=>none
    | false=>none
   | none=>none
  | _=>none
 | _=>none
def cn(d:Nat):Nat:=100 * (d+1)
def I7(lk:Nat->Option aG)(τ:Ty):Nat->List (Nat×AV)->Option (List τ.den×List Nat)
 | _,[]=>some ([],[])
 | n,(
    i,v)::r=>match Nat.beq i n with
  | true=>match vm lk τ v with
   | some (x,ids)=>match I7 lk τ (n+1) r with
    | some (xs,js)=>some (x::xs,ids++js)
    | none=>none
   | none=>none
  | false=>none
def ai.wL(s:ai)(d:Nat)(τ:Ty)(xs:List τ.den):ai :=
 { aE:=s.aE.set d (.aD (cn d)),aR:=(cn d, .aD τ xs)::s.aR }
def kO(E:Env)(lk:Nat->Option aG):List Bool->List TypeId->List AV->Option (List (Option TV)×List Nat)
 | [],[],[]=>some ([],[])
 | true::fl,T::Ts,v::vs=>match ah E.ty T with
  | some (τ,_)=>match vm lk τ v with
   | some (x,i)=>match kO E lk fl Ts vs with
    | some (r,j)=>some (some ⟨τ,x⟩::r,i++j)
    | none=>none
   | none=>none
  | none=>none
 | false::fl,_::Ts,_::vs=>match kO E lk fl Ts vs with
  | some (r,j)=>some (none::r,j)
  | none=>none
 | _,_,_=>none
def iT(E:Env)(lk:Nat->Option aG):List (Option TV)->List TypeId->List AV->Option (List Arg)
 | [],[],[]=>some []
 | some x::r,_::Ts,_::vs=>match iT E lk r Ts vs with
  | some Z9=>some (.own x::Z9)
  | none=>none
 | none::r,T::Ts,v::vs=>match Ug E lk T v with
  | some x=>match x.M6,iT E lk r Ts vs with
   | true,some Z9=>some (x::Z9)
   | _,_=>none
  | none=>none
 | _,_,_=>none
def Yv(E:Env)(s:ai)(o:Oper):Option (Vc×ai) :=
 match o.dst with
 | some d=>match E.own.contains d with
  | true=>match o.op with
   | .buildSlice T len parts=>match ah E.ty T with
    | some (.slice τ,_)=>match Nat.beq parts.size len&&Nat.ble len 1000 with
     | true=>match I7 s.ah τ 0 (parts.toList.map λ p=>(p.1,s.eval p.2)) with
      | some (xs,ids)=>match nodupB ids,(ids.foldl ai.gone s).ah (cn d) with
       | true,none=>some (.none,(ids.foldl ai.gone s).wL d τ xs)
       | _,_=>none
      | none=>none
     | false=>none
    | _=>none
   | .load T ad=>match ah E.ty T,s.eval ad with
    | some (.st q,_), .gQ id i 0 sz=>match s.ah id with
     | some (.aD (.st p) xs)=>match Nat.beq p.size sz&&p.zD.all Ty.TQ,p.ji ((p.cells (xs.getD i (Ty.zero (.st p)))).map YA),q.ji ((p.cells (xs.getD i (Ty.zero (.st p)))).map a1q) with
      | true,some y,some z=>match ((cw (cn d) (q.cells z)).all λ e=>(s.ah e.1).isNone)&&nodupB ((cw (cn d) (q.cells z)).map (·.1)) with
       | true=>some (.some (Dj (p.cells (xs.getD i (Ty.zero (.st p))))),{ aE:=s.cv.aE.set d (gZ (cn d) ⟨.st q,z⟩),aR:=cw (cn d) (q.cells z)++(s.cv.eQ id (.st p) (xs.set i y)).aR })
       | false=>none
      | _,_,_=>none
     | _=>none
    | _,_=>none
   | .call c=>match c.callee with
    | .builtin .append=>match c.argTypes.toList with
     | [T,T']=>match Nat.beq T T',ah E.ty T with
      | true,some (.slice τ,b,_)=>match c.args.toList.map s.eval with
       | [x,y]=>match fF s.ah (.slice τ) x,fF s.ah (.slice τ) y with
        | some (xs,i),some (ys,j)=>match nodupB (i++j),((i++j).foldl ai.gone s).ah (cn d) with
         | true,none=>some (.some (bF (xs.length+ys.length) b),((i++j).foldl ai.gone s).wL d τ (xs++ys))
         | _,_=>none
        | _,_=>none
       | _=>none
      | _,_=>none
     | _=>none
    | .value (
         .func f)=>match E.tk f with
     | []=>none
     | fl=>match kO E s.ah fl c.argTypes.toList (c.args.toList.map s.eval) with
      | some (own,ids)=>match nodupB ids,iT E (ids.foldl ai.gone s).ah own c.argTypes.toList (c.args.toList.map (ids.foldl ai.gone s).eval) with
       | true,some Z9=>match E.O4 f Z9 with
        | some (pre,res)=>match ((bJ (cn d) res).all λ p=>((ids.foldl ai.gone s).ah p.1).isNone)&&nodupB ((bJ (cn d) res).map (·.1)) with
         | true=>some (pre,{ aE:=(ids.foldl ai.gone s).aE.set d (o8 (cn d) res),aR:=bJ (cn d) res++(ids.foldl ai.gone s).aR })
         | false=>none
        | none=>none
       | _,_=>none
      | none=>none
    | _=>none
   | _=>none
  | false=>none
 | none=>none
def mX:List (Option Nat)->List AV->List (Nat×Nat)->Option (List (Nat×Nat))
 | [],[],m=>some m
 | some k::fl,v::vs,m=>match v with
  | .ptr id 0=>match ah m k with
   | some i=>match Nat.beq i id with
    | true=>mX fl vs m
    | false=>none
   | none=>mX fl vs ((k,id)::m)
  | _=>none
 | none::fl,_::vs,m=>mX fl vs m
 | _,_,_=>none
def dJ(lk:Nat->Option aG):List CK->List AV->List (Nat×Nat)->Option (List TV×List Nat×List (Nat×Nat))
 | [],[],m=>some ([],[],m)
 | .d τ::ks,v::vs,m=>match oD (λ _=>none) τ v,τ.agg with
  | some x,false=>match dJ lk ks vs m with
   | some (ds,ids,m)=>some (⟨τ,x⟩::ds,ids,m)
   | none=>none
  | _,_=>none
 | .o τ::ks,v::vs,m=>match fF lk τ v,τ.agg with
  | some (x,i),false=>match dJ lk ks vs m with
   | some (ds,ids,m)=>some (⟨τ,x⟩::ds,i++ids,m)
   | none=>none
  | _,_=>none
 | .p j::ks,v::vs,m=>match v with
  | .ptr id 0=>match ah m j with
   | some i=>match Nat.beq i id with
    | true=>dJ lk ks vs m
    | false=>none
   | none=>dJ lk ks vs ((j,id)::m)
  | _=>none
 | _,_,_=>none
def mQ(lk:Nat->Option aG):List (List CK)->Nat->List (Nat×Nat)->Option (List (List TV)×List Nat×List (Nat×Nat))
 | [],_,m=>some ([],[],m)
 | ks::sh,k,m=>match ah m k with
  | some id=>match lk id with
   | some (.box cs)=>match dJ lk ks cs m with
    | some (ds,i,m)=>match mQ lk sh (k+1) m with
     | some (cr,ids,m)=>some (ds::cr,i++ids,m)
     | none=>none
    | none=>none
   | _=>none
  | none=>none
def C0(lk:Nat->Option aG)(ids:List Nat)(id:Nat):Option aG:=match ids.contains id with
 | true=>none
 | false=>match lk id with
  | some (.box cs)=>some (.box cs)
  | _=>none
def Arg.a8q:Arg->Bool
 | .dO _=>false
 | _=>true
def wq(E:Env)(lk:Nat->Option aG):List (Option Nat)->List TypeId->List AV->Option (List Arg)
 | [],[],[]=>some []
 | some k::fl,_::Ts,_::vs=>match wq E lk fl Ts vs with
  | some r=>some (.box k::r)
  | none=>none
 | none::fl,T::Ts,v::vs=>match Ug E lk T v with
  | some x=>match x.a8q,wq E lk fl Ts vs with
   | true,some r=>some (x::r)
   | _,_=>none
  | none=>none
 | _,_,_=>none
def cE(m:List (Nat×Nat)):List CK->List AV->List TV->Nat->Option (List AV×List (Nat×aG)×Nat)
 | [],[],[],n=>some ([],[],n)
 | .d τ::ks,_::cs,v::ds,n=>match decide (v.τ=τ) with
  | true=>match cE m ks cs ds n with
   | some (r,os,n)=>some (.aT v::r,os,n)
   | none=>none
  | false=>none
 | .o τ::ks,_::cs,v::ds,n=>match decide (v.τ=τ) with
  | true=>match cE m ks cs ds (n+1) with
   | some (r,os,n')=>some (mF n v::r,iW n v++os,n')
   | none=>none
  | false=>none
 | .p j::ks,c::cs,ds,n=>match c with
  | .ptr id 0=>match ah m j with
   | some i=>match Nat.beq i id,cE m ks cs ds n with
    | true,some (r,os,n)=>some (.ptr id 0::r,os,n)
    | _,_=>none
   | none=>none
  | _=>none
 | _,_,_,_=>none
def wg(lk:Nat->Option aG)(m:List (Nat×Nat)):List (List CK)->Nat->List (List TV)->Nat->Option (List (Nat×aG)×List (Nat×aG))
 | [],_,[],_=>some ([],[])
 | ks::sh,k,ds::cr,n=>match ah m k with
  | some id=>match lk id with
   | some (.box cs)=>match cE m ks cs ds n with
    | some (r,os,n)=>match wg lk m sh (k+1) cr n with
     | some (bs,ts)=>some ((id, .box r)::bs,os++ts)
     | none=>none
    | none=>none
   | _=>none
  | none=>none
 | _,_,_,_=>none
def ki:List Nat->List (Nat×aG)->List (Nat×aG)
 | [],os=>os
 | id::r,os=>ki r (cf id os)
def Zp(E:Env)(s:ai)(o:Oper):Option (Vc×ai) :=
 match o.dst with
 | some d=>match o.op with
  | .call c=>match c.callee with
   | .value (
        .func f)=>match E.sk f with
    | some sk=>match mX sk.ps (c.args.toList.map s.eval) [] with
     | some m0=>match mQ s.ah sk.sh 0 m0 with
      | some (
          cr,ids,m)=>match nodupB ids&&(nodupB (m.map (·.1))&&(nodupB (m.map (·.2))&&Nat.beq m.length sk.sh.length)) with
       | true=>match wq E (C0 (ids.foldl ai.gone s).ah (m.map (·.2))) sk.ps c.argTypes.toList (c.args.toList.map (ids.foldl ai.gone s).eval) with
        | some Z9=>match E.Ya f Z9 cr with
         | some (pre,res,iB)=>match wg (ids.foldl ai.gone s).ah m sk.sh 0 iB (cn d+60) with
          | some (bs,ts)=>match ((bJ (cn d) res++ts).all λ p=>((ids.foldl ai.gone s).ah p.1).isNone)&&nodupB ((bJ (cn d) res++ts).map (·.1)) with
           | true=>some (pre,{ aE:=(ids.foldl ai.gone s).aE.set d (o8 (cn d) res),aR:=bs++(bJ (cn d) res++ts)++ki (m.map (·.2)) (ids.foldl ai.gone s).aR })
           | false=>none
          | none=>none
         | none=>none
        | none=>none
       | false=>none
      | none=>none
     | none=>none
    | none=>none
   | _=>none
  | _=>none
 | none=>none
def known(v:AV)(K:Prop):Prop :=
 match v with
 | .aT ⟨.int .i64,n⟩=>U n->K
 | .aT ⟨.slice _,xs⟩=>xs.length<=140737488355328->K
 | .aT ⟨.str,xs⟩=>xs.length<=140737488355328->K
 | _=>K
def Wk:Op->Bool
 | .load .. | .field .. | .index .. | .extract .. => true
 | .call c=>match c.callee with
  | .builtin .append=>false
  | _=>true
 | _=>false
def xL:Option Nat->Bool
 | none=>true
 | some d=>Nat.blt d 400000
def AV.stays:AV->Bool
 | .aT v=>match v.τ with
  | .ptr=>false
  | _=>true
 | .dH _=>true
 | _=>false
def a9X:Bool×TV->AV
 | (true,v) => .dH v
 | (false,v) => .aT v
def Zf(E:Env)(s:ai)(o:Oper):Option (Vc×AV×Option aG):=match o.op with
 | .call c=>match c.callee with
  | .value (.func f)=>match o.dst with
   | some d=>match qX E (wF s.ah) c.argTypes.toList (c.args.toList.map s.eval) with
    | some Z9=>match E.VG f Z9 with
     | some (pre, .box cells)=>some (pre, .ptr d 0,some (.box (cells.map .aT)))
     | some (pre, .row e τ xs)=>some (pre, .row d,some (.row e τ xs))
     | some (pre, .res l)=>match (c.args.toList.map s.eval).all AV.stays with
      | true=>some (pre, .mI (l.map a9X),none)
      | false=>none
     | none=>none
    | none=>none
   | none=>none
  | _=>none
 | _=>none
def p8(E:Env)(o:Oper)(K:ai->Prop)(s:ai):Prop :=
 match xL o.dst with
 | false=>False
 | true =>
 let s:=(pU E s o).foldl ai.freeze s;match Zp E s o with
 | some (vc,s')=>vc.and (K s')
 | none=>match Yv E s o with
 | some (vc,s')=>vc.and (K s')
 | none=>match YB E s o with
 | some (vc,s')=>vc.and (K s')
 | none=>match Zi E s o with
 | some (vc,s')=>vc.and (K s')
 | none=>match Zf E s o with
 | some (vc,v,ob)=>vc.and (K (s.lay o.dst v ob))
 | none=>match MY E s.ah s.eval o with
  | some (vc,v,ob)=>vc.and (match Wk o.op with
   | true=>known v (K (s.lay o.dst v ob))
   | false=>K (s.lay o.dst v ob))
  | none=>False
def zL(ops:Array Oper)(g:Nat):Option Nat:=(ops[g]?).bind (·.dst)
def iA(
      E:Env) (ops:Array Oper):List Oper->List (Nat×Bool)->(ai->Prop)->ai->Prop
 | [],_,Q,s=>Q s
 | o::r,kn,Q,s=>match o.guard with
  | none=>p8 E o (iA E ops r kn Q) s
  | some (
      g,want)=>match zL ops g with
   | none=>False
   | some t=>match ah kn t with
    | some b=>match s.eval (.tmp t) with
     | .aT ⟨.bool,b'⟩=>match b' == b,b == want with
      | true,true=>p8 E o (iA E ops r kn Q) s
      | true,false=>iA E ops r kn Q (s.put o.dst .fO)
      | false,_=>False
     | .fO=>iA E ops r kn Q (s.put o.dst .fO)
     | _=>False
    | none=>match s.eval (.tmp t) with
     | .aT ⟨.bool,b⟩ =>
      (b=want->p8 E o (iA E ops r ((t,want)::kn) Q) (s.put (some t) (.aT ⟨.bool,want⟩))) /\
      (b = !want->iA E ops r ((t,!want)::kn) Q ((s.put (some t) (.aT ⟨.bool,!want⟩)).put o.dst .fO))
     | .fO=>iA E ops r kn Q (s.put o.dst .fO)
     | _=>False
def y9(acc:List Nat)(s:Nat)(e:Edge):Nat :=
 match Region.binds .any e with
 | true=>s ||| (1 <<< e.on ||| acc.getD e.on 0)
 | false=>s
def cq:List Oper->List Nat->List Nat
 | [],acc=>acc
 | o::r,acc=>cq r (acc++[o.after.toList.foldl (y9 acc) 0])
def sH:List Nat->Nat->Nat->Nat
 | [],_,m=>m
 | b::r,i,m=>match Nat.beq (b+1) (2 ^ i) with
  | true=>sH r (i+1) m
  | false=>sH r (i+1) (i+1)
def cS(ops:List Oper)(k:Nat):Option Nat:=(ops[k]?).bind (·.dst)
def hidden(ops:List Oper)(m bits t:Nat):Bool:=(List.range m).any λ k=>match cS ops k with
 | some d=>match Nat.beq d t with
  | true => !Nat.testBit bits k
  | false=>false
 | none=>false
def WK(ops:List Oper)(m bits:Nat)(s:ai):Operand->AV
 | .tmp t=>match hidden ops m bits t with
  | true => .any
  | false=>s.eval (.tmp t)
 | x=>s.eval x
def S6(ops:List Oper)(m bits:Nat)(s:ai)(id:Nat):Option aG:=match hidden ops m bits id with
 | true=>none
 | false=>s.ah id
def zB:Op->Bool
 | .alloc _ | .box .. | .buildSlice .. | .makeSlice .. | .makeMap .. => true
 | .call c=>match c.callee with
  | .builtin .append=>true
  | _=>false
 | _=>false
def ai.fresh(s:ai)(o:Oper):ai :=
 match zB o.op,o.dst with
 | true,some d=>let s':=s.cF d
  { s' with aR:=cf d s'.aR }
 | _,_=>s
def ai.od(s:ai)(d:Option Nat)(v:AV)(o:Option aG):ai :=
 match d with
 | some d=>{ aE:=s.aE.set d v,aR:=match o with
  | some o=>(d,o)::s.aR
  | none=>s.aR }
 | none=>s
def Px(E:Env)(ops:List Oper)(m bits:Nat)(o:Oper)(K:ai->Prop)(s:ai):Prop :=
 match pU E s o with
 | []=>match MY E (S6 ops m bits s) (WK ops m bits s) o with
  | some (vc,v,ob)=>vc.and (K (s.od o.dst v ob))
  | none=>False
 | _=>False
def rj(
      E:Env) (ops:List Oper) (m:Nat) (cD:List Nat):Nat->List Oper->List (Nat×Bool)->(List (Nat×Bool)->ai->Prop)->ai->Prop
 | _,[],kn,Q,s=>Q kn s
 | i,o::r,kn,Q,s=>match o.guard with
  | none=>Px E ops m (cD.getD i 0) o (rj E ops m cD (i+1) r kn Q) s
  | some (
      g,want)=>match cS ops g,Nat.testBit (cD.getD i 0) g with
   | some t,true=>match ah kn t with
    | some b=>match s.eval (.tmp t) with
     | .aT ⟨.bool,b'⟩=>match b' == b,b == want with
      | true,true=>Px E ops m (cD.getD i 0) o (rj E ops m cD (i+1) r kn Q) s
      | true,false=>rj E ops m cD (i+1) r kn Q (s.put o.dst .fO)
      | false,_=>False
     | .fO=>rj E ops m cD (i+1) r kn Q (s.put o.dst .fO)
     | _=>False
    | none=>match s.eval (.tmp t) with
     | .aT ⟨.bool,b⟩ =>
      (b=want->Px E ops m (cD.getD i 0) o (rj E ops m cD (i+1) r ((t,want)::kn) Q) (s.put (some t) (.aT ⟨.bool,want⟩))) /\
      (b = !want->rj E ops m cD (i+1) r ((t,!want)::kn) Q ((s.put (some t) (.aT ⟨.bool,!want⟩)).put o.dst .fO))
     | .fO=>rj E ops m cD (i+1) r kn Q (s.put o.dst .fO)
     | _=>False
   | _,_=>False
def distinct:List (Option Nat)->Bool
 | []=>true
 | none::_=>false
 | some d::r=>match r.any λ x=>match x with
   | some e=>Nat.beq d e
   | none=>false with
  | true=>false
  | false=>distinct r
def backward(ops:List Oper):Bool:=(List.range ops.length).all λ i=>match ops[i]? with
 | some o=>o.after.toList.all λ e=>match Region.binds .any e with
  | true=>Nat.blt e.on i
  | false=>true
 | none=>true
def zd(ops:List Oper)(s:ai)(K:Prop):Prop :=
 match ops with
 | []=>K
 | o::r=>match Wk o.op,o.dst with
  | true,some d=>known (s.aE.getD d .any) (zd r s K)
  | _,_=>zd r s K
def Vl(cD:List Nat)(p:Nat):Bool:=(cD.drop p).all λ b=>Nat.beq (b % 2 ^ p) (2 ^ p - 1)
def Yy(cD:List Nat):List Nat->List Nat
 | []=>[]
 | p::r=>match Vl cD p with
  | true=>p::Yy cD r
  | false=>Yy cD r
def zG:List (Option Nat)->Bool
 | []=>true
 | none::r=>zG r
 | some d::r=>match r.any λ x=>match x with
   | some e=>Nat.beq d e
   | none=>false with
  | true=>false
  | false=>zG r
def H0(l:List Oper)(lo hi:Nat):Bool :=
 ((
  (l.take hi).drop lo).all λ o=>xL o.dst)&&zG (((l.take hi).drop lo).map (·.dst))&&(l.take lo).all λ o=>match o.dst with
  | none=>true
  | some d => !(((l.take hi).drop lo).any λ p=>match p.dst with
   | some e=>Nat.beq d e
   | none=>false)
def Oper.alone(E:Env)(o:Oper):Bool:=match o.op with
 | .store .. | .mapUpdate .. | .insert .. => true
 | _=>match o.dst with
  | some d=>E.own.contains d
  | none=>false
def AS(u v:TV):Prop:=match u.Z9 v.τ with
 | some x=>x=v.x
 | none=>False
def Zj:Op->Option (List Operand)
 | .move x | .assign x | .nilCheck x | .fieldAddr _ x _ | .load _ x | .box _ x | .extract x _=>some [x]
 | .indexAddr _ x i | .store _ x i | .lookup _ x i _=>some [x,i]
 | .mapUpdate _ m k x | .insert _ m k x=>some [m,k,x]
 | .makeMap _ none=>some []
 | .alloc _=>some []
 | .binOp _ _ x y _=>some [x,y]
 | .build _ ps=>some (ps.toList.map (·.2))
 | .buildSlice _ _ ps=>some (ps.toList.map (·.2))
 | .call c=>match c.callee with
  | .value f=>some (f::c.args.toList)
  | .builtin _=>some c.args.toList
  | _=>none
 | .pick c x y=>some [c,x,y]
 | .slice _ x l h m=>some (x::(l.toList++(h.toList++m.toList)))
 | _=>none
def jC(D:List Nat)(o:Oper):Bool:=match Zj o.op with
 | some l=>l.all λ x=>match x with
  | .tmp t => !D.contains t
  | _=>true
 | none=>false
def reads:Op->Bool
 | .move _ | .nilCheck _ | .fieldAddr .. | .load .. | .indexAddr .. => true
 | _=>false
def rop(E:Env)(s:ai)(o:Oper):Option (Vc×AV):=match reads o.op with
 | true=>match MY E s.ah s.eval o with
  | some (vc,v,none)=>some (vc,v)
  | _=>none
 | false=>none
def NH:AV->AV->Prop
 | .aT v, .aT u=>AS v u
 | .dH v, .dH u=>AS v u
 | .aD i, .aD j=>i=j
 | .row i, .row j=>i=j
 | .ptr i p, .ptr j q=>i=j/\p=q
 | .nil, .nil=>True
 | .fO, .fO=>True
 | _,_=>False
def Uk:List AV->List AV->Prop
 | [],[]=>True
 | a::Z9,b::bs=>NH a b/\Uk Z9 bs
 | _,_=>False
def Yt(a b:AV):Prop:=match a,b with
 | .agg Z9, .agg bs=>Uk Z9 bs
 | a,b=>NH a b
def lq(E:Env):List (Nat×Oper)->ai->Prop->Prop
 | [],_,K=>K
 | r::rs,s,K=>match r.2.dst,rop E s r.2 with
  | some d,some (vc,v)=>vc.and (Yt v (s.aE.getD d .any)/\lq E rs s K)
  | _,_=>False
def NI(E:Env):List (Nat×Oper)->(ai->Prop)->ai->Prop
 | [],K,s=>K s
 | r::rs,K,s=>match r.2.dst,rop E s r.2 with
  | some d,some (vc,v)=>vc.and (known v (NI E rs K (s.put (some d) v)))
  | _,_=>False
def dstsOf(R:List (Nat×Oper)):List Nat:=R.filterMap λ r=>r.2.dst
def sr:Op->Bool
 | .alloc _=>true
 | _=>false
def oT:Op->Bool
 | .extract .. => true
 | _=>false
def yQ:Op->Bool
 | .buildSlice _ len ps=>Nat.beq len 0&&Nat.beq ps.size 0
 | _=>false
def I3(E:Env)(o:Oper):Bool:=match o.dst with
 | some d=>E.ro.contains d
 | none=>false
def en(E:Env)(o:Oper):Bool:=sr o.op||(oT o.op||(yQ o.op&&I3 E o))
def wA(E:Env)(X:List (Nat×Oper)):List Nat:=X.filterMap λ x=>match en E x.2 with
 | true=>x.2.dst
 | false=>none
def By(s:ai):Op->Bool
 | .extract t i=>match s.eval t with
  | .mI vs=>Nat.blt i vs.length
  | _=>false
 | _=>true
def Za(E:Env)(cD:List Nat)(X:List (Nat×Oper))(s:ai):Bool:=X.all λ e=>By s e.2.op||X.any λ y => !en E y.2&&Nat.testBit (cD.getD e.1 0) y.1
def OT(cD:List Nat)(x:Nat×Oper):List (Nat×Oper)->List (Nat×Oper)
 | []=>[x]
 | y::ys=>match Nat.testBit (cD.getD y.1 0) x.1 with
  | true=>x::y::ys
  | false=>y::OT cD x ys
def MB(E:Env)(cD:List Nat):List (Nat×Oper)->List (Nat×Oper)
 | []=>[]
 | x::xs=>match en E x.2 with
  | true=>OT cD x (MB E cD xs)
  | false=>x::MB E cD xs
def ui(E:Env)(o:Oper):Bool:=match o.op with
 | .alloc T=>o.dst.isSome&&(xL o.dst&&(ah E.ty T).isSome)
 | .extract .. => o.dst.isSome
 | .buildSlice T len ps => !(Nat.beq len 0&&Nat.beq ps.size 0&&I3 E o)||(match o.dst,ah E.ty T with
  | some d,some (.slice _,_)=>Nat.blt d 400000&&(E.ro.contains d && !E.own.contains d)
  | _,_=>false)
 | _=>true
def Uu(E:Env)(cD:List Nat)(X:List (Nat×Oper))(y:Nat×Oper):Bool := !en E y.2&&X.all λ z=>en E z.2 || !Nat.testBit (cD.getD y.1 0) z.1
def DH(p:Nat×Oper->Bool)(f:Nat×Oper->Prop):List (Nat×Oper)->Prop
 | []=>True
 | y::ys=>match p y with
  | true=>f y/\DH p f ys
  | false=>DH p f ys
def mb(E:Env)(cD:List Nat):Nat->List (Nat×Oper)->List (Nat×Oper)->(ai->Prop)->ai->Prop
 | 0,_,X,K,s=>match X with
  | []=>K s
  | _::_=>False
 | n+1,R,X,K,s=>match X with
  | []=>K s
  | x::xs=>match Za E cD (x::xs) s with
   | true=>match jC (dstsOf (R.filter λ r => !Nat.testBit (cD.getD x.1 0) r.1)++wA E xs) x.2&&xs.all λ y=>en E y.2||Nat.testBit (cD.getD y.1 0) x.1 with
    | true=>p8 E x.2 (λ s'=>lq E (R.filter λ r => !Nat.testBit (cD.getD x.1 0) r.1) s' (mb E cD n (R.filter λ r => !Nat.testBit (cD.getD x.1 0) r.1) xs K s')) s
    | false=>match en E x.2 with
     | true=>False
     | false=>DH (Uu E cD (x::xs)) (λ y=>match jC (dstsOf (R.filter λ r => !Nat.testBit (cD.getD y.1 0) r.1)++wA E ((x::xs).filter λ z => !Nat.beq z.1 y.1)) y.2 with
      | true=>p8 E y.2 (λ s'=>lq E (R.filter λ r => !Nat.testBit (cD.getD y.1 0) r.1) s' (mb E cD n (R.filter λ r => !Nat.testBit (cD.getD y.1 0) r.1) ((x::xs).filter λ z => !Nat.beq z.1 y.1) K s')) s
      | false=>False) (x::xs)
   | false=>False
def qn:Nat->List Oper->List (Nat×Oper)
 | _,[]=>[]
 | i,o::r=>(i,o)::qn (i+1) r
def Pu(E:Env)(o:Oper):Bool:=reads o.op&&(match o.dst with
 | some d => !E.own.contains d
 | none=>true)
def rF(E:Env)(cD:List Nat)(iM:List (Nat×Oper))(r:Nat×Oper):Bool :=
 Pu E r.2&&iM.all λ y=>Pu E y.2 || !Nat.testBit (cD.getD r.1 0) y.1
def a5B(E:Env)(cD:List Nat)(iM:List (Nat×Oper)):Bool :=
 (iM.all λ r=>r.2.guard.isNone&&ui E r.2)&&iM.all λ r => !(rF E cD iM r||oT r.2.op)||jC (dstsOf (iM.filter λ y => !Nat.testBit (cD.getD r.1 0) y.1)++bif oT r.2.op then wA E iM else []) r.2
def a2o(E:Env)(cD:List Nat)(iM:List (Nat×Oper))(K:ai->Prop)(s:ai):Prop :=
 match a5B E cD iM with
 | true=>NI E (iM.filter (rF E cD iM)) (λ s'=>lq E (iM.filter (rF E cD iM)) s' (mb E cD iM.length (iM.filter (rF E cD iM)) (MB E cD (iM.filter λ r => !rF E cD iM r)) K s')) s
 | false=>False
def zu(E:Env)(ops:Array Oper)(l:List Oper)(cD:List Nat):List Nat->Nat->List (Nat×Bool)->(ai->Prop)->ai->Prop
 | [],lo,_,Q,s=>match Nat.beq lo l.length with
  | true=>Q s
  | false=>False
 | hi::r,lo,kn,Q,s=>match Vl cD hi&&(Vl cD lo&&(Nat.blt lo hi&&Nat.ble hi l.length)) with
  | true=>match Nat.beq hi (lo+1) with
   | true=>iA E ops ((l.take hi).drop lo) kn (zu E ops l cD r hi kn Q) s
   | false=>match H0 l lo hi,((l.take hi).drop lo).any (Oper.alone E) with
    | true,true=>a2o E cD (qn lo ((l.take hi).drop lo)) (zu E ops l cD r hi kn Q) s
    | true,false=>rj E l hi cD lo ((l.take hi).drop lo) kn (λ kn s=>zd ((l.take hi).drop lo) s (zu E ops l cD r hi kn Q s)) (((l.take hi).drop lo).foldl ai.fresh s)
    | false,_=>False
  | false=>False
def Um(E:Env)(ops:Array Oper)(Q:ai->Prop)(s:ai):Prop :=
 let l:=ops.toList
 let cD:=cq l []
 let m:=sH cD 0 0
 match ((l.take m).all λ o=>xL o.dst)&&(distinct ((l.take m).map (·.dst))&&backward l) with
 | true=>rj E l m cD 0 (l.take m) [] (λ kn s=>zd (l.take m) s (iA E ops (l.drop m) kn Q s)) ((l.take m).foldl ai.fresh s)
 | false=>False
def Qe(E:Env)(ops:Array Oper)(Q:ai->Prop)(s:ai):Prop :=
 let l:=ops.toList
 let cD:=cq l []
 match (l.take (sH cD 0 0)).any (Oper.alone E) with
 | false=>Um E ops Q s
 | true=>match backward l with
  | true=>zu E ops l cD (Yy cD ((List.range l.length).map (·+1))) 0 [] Q s
  | false=>False
def ZL(E:Env)(ops:Array Oper)(Q:ai->Prop)(s:ai):Prop:=Qe E ops Q s
inductive aM:Type 1 where
 | none
 | mk (ι:Type) (P:ι->Prop) (μ:ι->Nat) (fz dead:List Nat) (ins:ι->List (Nat×AV)) (bd:List Nat) (os:ι->List (Nat×aG)) (X8 ren:List (Nat×Nat)) (sub:ι->Nat->aM)
def Code.EN:Code->List Nat
 | .region _ ops _=>ops.toList.filterMap (·.dst)
 | .seq a b=>Code.EN a++Code.EN b
 | .cond _ a b=>Code.EN a++Code.EN b
 | .block _ c=>Code.EN c
 | .loop c=>Code.EN c
 | .scope c=>Code.EN c
 | _=>[]
def Code.first:Code->Option Nat
 | .region id _ _=>some id
 | .seq a _=>Code.first a
 | .block _ c=>Code.first c
 | .loop c=>Code.first c
 | .cond _ a _=>Code.first a
 | _=>none
def Code.a6B(Λ:Nat->aM)(b:Code):aM:=match Code.first b with
 | some r=>Λ (r+100000)
 | none => .none
def a3a(sl:List AV):List (Nat×AV)->List AV
 | []=>sl
 | (t,v)::r=>a3a (sl.set t v) r
def QI(bd:List Nat):List (Nat×aG)->List (Nat×aG)
 | []=>[]
 | (k,o)::r=>match bd.contains k with
  | true=>(k,o)::QI bd r
  | false=>QI bd r
def vJ(s:ai)(EN:List Nat)(ins:List (Nat×AV))(bd:List Nat)(os:List (Nat×aG)):ai :=
 { aE:=a3a (EN.foldl (λ l t=>l.set t .any) s.aE) ins,aR:=os++QI bd s.aR }
def ec(ρ:List (Nat×Nat))(id:Nat):Nat:=match ah ρ id with
 | some k=>k
 | none=>id
def isRow:Option aG->Bool
 | some (.row ..)=>true
 | _=>false
def jG:Option aG->Bool
 | some (.box _)=>true
 | _=>false
def MA:Option aG->Bool
 | some (.map _)=>true
 | _=>false
def AV.yo(ρ:List (Nat×Nat))(s t:ai)(a b:AV):Prop :=
 match b with
 | .any=>True
 | .aT v=>match a with
  | .aT u=>AS u v
  | .nil=>match v with
   | ⟨.slice _,xs⟩=>xs=[]
   | _=>False
  | _=>False
 | .nil=>match a with
  | .nil=>True
  | _=>False
 | .dH v=>match a with
  | .dH u=>AS u v
  | _=>False
 | .ptr id off=>match a with
  | .ptr i o=>match Nat.beq i (ec ρ id)&&Nat.beq o off&&jG (t.ah id) with
   | true=>True
   | false=>False
  | _=>False
 | .row id=>match a with
  | .row i=>match Nat.beq i (ec ρ id)&&isRow (t.ah id) with
   | true=>True
   | false=>False
  | .nil=>match isRow (t.ah id),s.ah (ec ρ id) with
   | true,Option.none=>True
   | _,_=>False
  | _=>False
 | .aD id=>match a with
  | .aD i=>match Nat.beq i (ec ρ id)&&cN (t.ah id) with
   | true=>True
   | false=>False
  | .nil=>match cN (t.ah id),s.ah (ec ρ id) with
   | true,Option.none=>True
   | _,_=>False
  | _=>False
 | .fn f=>match a with
  | .fn g=>match Nat.beq f g with
   | true=>True
   | false=>False
  | _=>False
 | .mp id=>match a with
  | .mp i=>match Nat.beq i (ec ρ id)&&MA (t.ah id) with
   | true=>True
   | false=>False
  | _=>False
 | _=>False
def KY(ρ:List (Nat×Nat))(s t:ai):List AV->List AV->Prop
 | [],[]=>True
 | a::Z9,b::bs=>match b with
  | .any=>KY ρ s t Z9 bs
  | b=>AV.yo ρ s t a b/\KY ρ s t Z9 bs
 | _,_=>False
def AV.a7g(ρ:List (Nat×Nat))(s t:ai)(a b:AV):Prop :=
 match a,b with
 | .agg Z9, .agg bs=>KY ρ s t Z9 bs
 | a,b=>AV.yo ρ s t a b
def Z1(ρ:List (Nat×Nat))(s t:ai):List AV->List AV->Prop
 | [],[]=>True
 | a::Z9,b::bs=>match b with
  | .any=>Z1 ρ s t Z9 bs
  | b=>AV.a7g ρ s t a b/\Z1 ρ s t Z9 bs
 | _,_=>False
def a2B(u v:FV):Prop:=match u.Z9 v.ps v.r with
 | some F=>F=v.F
 | none=>False
def AV.fit(ρ:List (Nat×Nat))(s t:ai)(a b:AV):Prop :=
 match a,b with
 | .dO f Z9, .dO g bs=>match Nat.beq f g with
  | true=>Z1 ρ s t Z9 bs
  | false=>False
 | .me u, .me v=>a2B u v
 | .agg Z9, .agg bs=>KY ρ s t Z9 bs
 | .agg Z9, .aT v=>match GJ (λ _=>none) v.τ (.agg Z9) with
  | some x=>x=v.x
  | none=>False
 | a,b=>AV.yo ρ s t a b
def DL(ρ:List (Nat×Nat))(s t:ai):List AV->List AV->Prop
 | [],[]=>True
 | a::Z9,b::bs=>match b with
  | .any=>DL ρ s t Z9 bs
  | b=>AV.fit ρ s t a b/\DL ρ s t Z9 bs
 | _,_=>False
def toO(x:J):sI:=⟨x.au,x.aO,some x.M⟩
def Zv(bw:Ty)(ys:List bw.den)(τ:Ty)(xs:List τ.den):Prop :=
 match decide (τ = .st .oExpr),decide (bw = .st .expr) with
 | true,true=>AS ⟨.slice (.st .oExpr),((show Option (List J) from TV.Z9 (.slice (.st .expr)) ⟨.slice bw,ys⟩).getD []).map toO⟩ ⟨.slice τ,xs⟩
 | _,_=>AS ⟨.slice bw,ys⟩ ⟨.slice τ,xs⟩
def a1J(a b:MV):Prop:=match a.Z9 b.κ b.ε with
 | some (f,n)=>f=b.f/\n=b.n
 | none=>False
def pg(ρ:List (Nat×Nat))(s t:ai):List (Nat×aG)->Prop
 | []=>True
 | (id, .box bs)::r=>match s.ah (ec ρ id) with
  | some (.box Z9)=>KY ρ s t Z9 bs/\pg ρ s t r
  | _=>False
 | (id, .row e τ xs)::r=>match s.ah (ec ρ id) with
  | some (.row e' bw ys)=>match Nat.beq e e' with
   | true=>AS ⟨.slice bw,ys⟩ ⟨.slice τ,xs⟩/\pg ρ s t r
   | false=>False
  | Option.none=>xs=[]/\pg ρ s t r
  | _=>False
 | (id, .aD τ xs)::r=>match s.ah (ec ρ id) with
  | some (.aD bw ys)=>Zv bw ys τ xs/\pg ρ s t r
  | Option.none=>xs=[]/\pg ρ s t r
  | _=>False
 | (id, .map m)::r=>match s.ah (ec ρ id) with
  | some (.map m')=>a1J m' m/\pg ρ s t r
  | _=>False
def Fits(ρ:List (Nat×Nat))(s t:ai):Prop :=
 match (nodupB (t.aR.map (·.1))&&nodupB (t.aR.map λ p=>ec ρ p.1))&&t.aR.all (λ p=>Nat.blt p.1 50||(Nat.ble 100 p.1||(Nat.beq (ec ρ p.1) p.1&&cN (s.ah p.1))))&&t.aR.all (λ p=>Nat.blt p.1 400000||(!jG (some p.2)||(Nat.beq (ec ρ p.1) p.1&&jG (s.ah p.1)))) with
 | true=>DL ρ s t s.aE t.aE/\pg ρ s t t.aR
 | false=>False
def a5I(ρ:List (Nat×Nat))(a b:AV):List (Nat×Nat):=match b with
 | .aD k=>match a with
  | .aD i=>match Nat.beq i (ec ρ k) with
   | true=>[]
   | false=>[(k,i)]
  | _=>[]
 | _=>[]
def a1T(ρ:List (Nat×Nat)):List AV->List AV->List (Nat×Nat)
 | a::Z9,b::bs=>a5I ρ a b++a1T ρ Z9 bs
 | _,_=>[]
def a8r(ρ:List (Nat×Nat))(a b:AV):List (Nat×Nat):=match b with
 | .agg bs=>match a with
  | .agg Z9=>a1T ρ Z9 bs
  | _=>[]
 | b=>a5I ρ a b
def V3(ρ:List (Nat×Nat)):List AV->List AV->List (Nat×Nat)
 | a::Z9,b::bs=>a8r ρ a b++V3 ρ Z9 bs
 | _,_=>[]
def JA(ρ:List (Nat×Nat))(s:ai):List (Nat×aG)->List (Nat×Nat)
 | []=>[]
 | (id, .box bs)::r=>match s.ah (ec ρ id) with
  | some (.box Z9)=>a1T ρ Z9 bs++JA ρ s r
  | _=>JA ρ s r
 | _::r=>JA ρ s r
def YH:List (Nat×Nat)->(List (Nat×Nat)->Prop)->Prop
 | [],K=>K []
 | (a,b)::r,K=>YH r λ r'=>K ((a,b)::r')
def Ok:∀ {l:List (Nat×Nat)} {K:List (Nat×Nat)->Prop},YH l K->K l
 | [],_,h=>h
 | (a,b)::r,K,h=>Ok (l:=r) (K:=λ r'=>K ((a,b)::r')) h
def T4(ρ:List (Nat×Nat))(s t:ai):Prop:=YH (JA ρ s t.aR++V3 ρ s.aE t.aE) λ r=>Fits (r++ρ) s t
def T4.ex{ρ:List (Nat×Nat)}{s t:ai}(h:T4 ρ s t):∃ r,Fits (r++ρ) s t:=⟨_,Ok h⟩
def ck(E:Env):Code->(Nat->aM)->Nat->(Exit->ai->Prop)->ai->Prop
 | .skip,_,_,Q,s=>Q .normal s
 | .region _ ops draw,_,_,Q,s=>match draw with
  | true=>ZL E ops (Q .normal) s
  | false=>iA E ops ops.toList [] (Q .normal) s
 | .seq a b,Λ,cur,Q,s=>match Code.a6B Λ b with
  | .none=>ck E a Λ cur (λ e s'=>match e with
   | .normal=>ck E b Λ cur Q s'
   | e=>Q e s') s
  | .mk ι P _ fz dead ins bd os X8 _ sub =>
   let EN:=dead++Code.EN a;ck E a Λ cur (λ e s'=>match e with
    | .normal=>∃ j:ι,P j/\T4 X8 (fz.foldl ai.freeze s') (vJ s EN (ins j) bd (os j))
    | e=>Q e s') s /\
   ∀ i:ι,P i->ck E b (sub i) cur Q (vJ s EN (ins i) bd (os i))
 | .cond c a b,Λ,cur,Q,s=>match s.eval c with
  | .aT ⟨.bool,t⟩=>(t=true->ck E a Λ cur Q s)/\(t=false->ck E b Λ cur Q s)
  | _=>False
 | .block id c,Λ,_,Q,s=>ck E c Λ id (λ e s'=>match e with
  | .exit i=>match Nat.beq i id with
   | true=>Q .normal s'
   | false=>Q (.exit i) s'
  | e=>Q e s') s
 | .loop c,Λ,cur,Q,s=>match Λ cur with
  | .none=>False
  | .mk ι P μ fz dead ins bd os X8 ren sub =>
   let EN:=dead++Code.EN c;(∃ i:ι,P i/\T4 X8 (fz.foldl ai.freeze s) (vJ s EN (ins i) bd (os i))) /\
   ∀ i:ι,P i->ck E c (sub i) cur (λ e s'=>match e with
    | .normal=>∃ j:ι,P j/\μ j<μ i/\T4 ren (fz.foldl ai.freeze s') (vJ s EN (ins j) bd (os j))
    | e=>Q e s') (vJ s EN (ins i) bd (os i))
 | .exit id,_,_,Q,s=>Q (.exit id) s
 | .ret,_,_,Q,s=>Q .ret s
 | .label _,_,_,Q,s=>Q .normal s
 | _,_,_,_,_=>False
def Rj(E:Env)(s:ai):List ResultVar->List TypeId->Option (List TV)
 | [],[]=>some []
 | r::rs,T::Ts=>match ah E.ty T with
  | some (τ,_)=>match (match r with
    | .tmp t=>GJ (O3 s.ah) τ (s.eval (.tmp t))
    | .cell a t=>match Nat.beq t T with
     | true=>deref (O3 s.ah) τ (s.eval (.tmp a))
     | false=>none) with
   | some x=>match Rj E s rs Ts with
    | some l=>some (⟨τ,x⟩::l)
    | none=>none
   | none=>none
  | none=>none
 | _,_=>none
def Uf:Arg->AV
 | .val v => .aT v
 | .ref v => .dH v
 | .fn f => .fn f
 | .dO v => .me v
 | .own _ => .any
 | .box _ => .any
def aL(fn:Func)(args:List Arg):ai :=
 { aE:=args.map Uf++List.replicate (fn.ntmps - args.length) .any,aR:=[] }
def wu:Nat->List Arg->ai->ai
 | _,[],s=>s
 | p, .own v::r,s=>wu (p+1) r { aE:=s.aE.set p (gZ (1000000+100 * p) v),aR:=cw (1000000+100 * p) v.cells++s.aR }
 | p,_::r,s=>wu (p+1) r s
def fE(fn:Func)(args:List Arg):ai:=wu 0 args (aL fn args)
def bx(E:Env)(fn:Func)(post:List TV->Prop)(e:Exit)(s:ai):Prop :=
 match e with
 | .ret | .normal=>match Rj E s fn.results.toList fn.resultTypes.toList with
  | some vs=>post vs
  | none=>False
 | _=>False
def bB:List TV->List TV->Prop
 | [],[]=>True
 | [v],[u]=>AS v u
 | v::vs,u::us=>AS v u/\bB vs us
 | _,_=>False
end
def cG(w:World)(b o:Nat)(cs:List Value):Prop:=∀ j v,cs[j]?=some v->w.cell? ⟨b,o+j,none⟩=some v
def D.size:D->Nat
 | .agg ds=>ds.length
 | _=>1
mutual
def Rd(w:World)(S:Nat->Prop):D->List Value->Prop
 | .int k n,cs=>cs=[.int k n]/\k.min<=n/\n<=k.max
 | .bool b,cs=>cs=[.bool b]
 | .str s,cs=>∃ x:ByteArray,cs=[.string x]/\x.data.toList=s/\x.size<=140737488355328
 | .slice _ xs,cs=>∃ a cap,cs=[.slice a xs.length cap]/\xs.length<=cap/\cap<=maxLen/\xs.length<=140737488355328/\(xs=[]\/∃ b o,a=some ⟨b,o,none⟩/\S b/\eH w S xs b o)
 | .agg ds,cs=>eb w S ds cs
 | .hole,cs=>∃ a n m,cs=[.slice a n m]
 | .ptr,cs=>∃ p,cs=[.pointer p]
def eb(w:World)(S:Nat->Prop):List D->List Value->Prop
 | [],cs=>cs=[]
 | d::ds,cs=>∃ v r,cs=v::r/\Rd w S d [v]/\eb w S ds r
def eH(w:World)(S:Nat->Prop):List D->Nat->Nat->Prop
 | [],_,_=>True
 | d::ds,b,o=>(∃ cs,cs.length=d.size/\Rd w S d cs/\cG w b o cs)/\eH w S ds b (o+d.size)
end
def cG.bd{w w':World}{b o:Nat}{cs:List Value}(h:cG w b o cs)(hb:w'.heap[b]?=w.heap[b]?):cG w' b o cs :=
 λ j v hj=>by rw[<-h j v hj];exact b3o (a:=⟨b,o+j,none⟩) hb
mutual
def Rd.bd{w w':World}{S S':Nat->Prop}(hS:∀ b,S b->S' b)(hw:∀ b,S b->w'.heap[b]?=w.heap[b]?):∀ (d:D) {cs:List Value},Rd w S d cs->Rd w' S' d cs
 | .int _ _,_,h=>h
 | .bool _,_,h=>h
 | .str _,_,h=>h
 | .slice _ xs,_,h=>by
  obtain⟨a,cap,h1,h2,h3,h4,h5⟩:=h;refine⟨a,cap,h1,h2,h3,h4,h5.imp id ?_⟩;rintro⟨b,o,ha,hb,hr⟩;exact⟨b,o,ha,hS b hb,eH.bd hS hw xs b o hb hr⟩
 | .agg ds,_,h=>eb.bd hS hw ds h
 | .hole,_,h=>h
 | .ptr,_,h=>h
def eb.bd{w w':World}{S S':Nat->Prop}(hS:∀ b,S b->S' b)(hw:∀ b,S b->w'.heap[b]?=w.heap[b]?):∀ (ds:List D) {cs:List Value},eb w S ds cs->eb w' S' ds cs
 | [],_,h=>h
 | d::ds,_,h=>by
  obtain⟨v,r,h1,h2,h3⟩:=h;exact⟨v,r,h1,Rd.bd hS hw d h2,eb.bd hS hw ds h3⟩
def eH.bd{w w':World}{S S':Nat->Prop}(hS:∀ b,S b->S' b)(hw:∀ b,S b->w'.heap[b]?=w.heap[b]?):∀ (ds:List D) (b o:Nat),S b->eH w S ds b o->eH w' S' ds b o
 | [],_,_,_,_=>trivial
 | d::ds,b,o,hb,h=>by
  obtain⟨⟨cs,h1,h2,h3⟩,h4⟩:=h;exact⟨⟨cs,h1,Rd.bd hS hw d h2,h3.bd (hw b hb)⟩,eH.bd hS hw ds b _ hb h4⟩
end
def eb.length{w:World}{S:Nat->Prop}:∀ (ds:List D) {cs:List Value},eb w S ds cs->cs.length=ds.length
 | [],_,h=>by rw[show _=[] from h];rfl
 | d::ds,_,h=>by
  obtain⟨v,r,rfl,_,h3⟩:=h;simp[eb.length ds h3]
def Rd.length{w:World}{S:Nat->Prop}(d:D){cs:List Value}(h:Rd w S d cs):cs.length=d.size:=by
 cases d with
 | int k n=>rw[h.1];rfl
 | bool b=>rw[show cs=_ from h];rfl
 | str s=>obtain⟨x,h,_⟩:=h;rw[h];rfl
 | slice n xs=>obtain⟨a,cap,h,_⟩:=h;rw[h];rfl
 | agg ds=>exact eb.length ds h
 | hole=>obtain⟨a,n,m,h⟩:=h;rw[h];rfl
 | ptr=>obtain⟨p,h⟩:=h;rw[h];rfl
def Ty.dn(t:Ty)(x:t.den):(t.bc x).size=t.size:=by
 cases t with
 | st s=>simp[Ty.bc,aY.cP,D.size,Ty.size,aY.mK]
 | mv t=>cases (show Option (List t.den) from x)<;>rfl
 | _=>rfl
def eH.at_{w:World}{S:Nat->Prop}{n:Nat}:∀ (ds:List D) (b o:Nat),eH w S ds b o->(∀ d∈ds,d.size=n)->∀ i d,ds[i]?=some d ->
  ∃ cs,cs.length=n/\Rd w S d cs/\cG w b (o+i * n) cs
 | [],_,_,_,_,i,d,h=>by simp at h
 | e::ds,b,o,h,hn,0,d,hi=>by
  obtain⟨⟨cs,h1,h2,h3⟩,_⟩:=h;simp at hi;subst hi;exact⟨cs,by rw[h1];exact hn _ (by simp),h2,by simpa using h3⟩
 | e::ds,b,o,h,hn,i+1,d,hi=>by
  obtain⟨_,h4⟩:=h;rw[hn e (by simp)] at h4;obtain⟨cs,h1,h2,h3⟩:=eH.at_ ds b (o+n) h4 (λ d hd=>hn d (by simp[hd])) i d (by simpa using hi);exact⟨cs,h1,h2,by rw[show o+(i+1) * n=o+n+i * n by rw[Nat.add_mul];omega];exact h3⟩
def eH.a4O{w:World}{S:Nat->Prop}{n:Nat}:∀ (k:Nat) (ds:List D) (b o:Nat),eH w S ds b o->(∀ d∈ds,d.size=n)->eH w S (ds.drop k) b (o+k * n)
 | 0,ds,b,o,h,_=>by simpa using h
 | k+1,[],b,o,h,_=>by simp[eH]
 | k+1,d::ds,b,o,h,hn=>by
  have:=eH.a4O k ds b (o+n) (by have:=h.2;rwa [hn d (by simp)] at this) (λ d hd=>hn d (by simp[hd]));rw[show o+(k+1) * n=o+n+k * n by rw[b2a];omega];exact this
def eH.a5U{w:World}{S:Nat->Prop}:∀ (k:Nat) (ds:List D) (b o:Nat),eH w S ds b o->eH w S (ds.take k) b o
 | 0,ds,b,o,h=>by simp[eH]
 | k+1,[],b,o,h=>by simp[eH]
 | k+1,d::ds,b,o,h=>⟨h.1,eH.a5U k ds b _ h.2⟩
def gL(w:World)(S:Nat->Prop):List D->List Value->Prop
 | [],l=>l=[]
 | d::ds,l=>∃ c r,l=c++r/\Rd w S d c/\gL w S ds r
def gL.bd{w w':World}{S S':Nat->Prop}(hS:∀ b,S b->S' b)(hw:∀ b,S b->w'.heap[b]?=w.heap[b]?):∀ (ds:List D) {l:List Value},gL w S ds l->gL w' S' ds l
 | [],_,h=>h
 | d::ds,_,h=>by
  obtain⟨c,r,h1,h2,h3⟩:=h;exact⟨c,r,h1,Rd.bd hS hw d h2,gL.bd hS hw ds h3⟩
def gL.append{w:World}{S:Nat->Prop}:∀ (ds es:List D) {l m:List Value},gL w S ds l->gL w S es m->gL w S (ds++es) (l++m)
 | [],_,_,_,h,k=>by rw[show _=[] from h];simpa using k
 | d::ds,es,_,m,h,k=>by
  obtain⟨c,r,rfl,h2,h3⟩:=h;exact⟨c,r++m,by simp,h2,gL.append ds es h3 k⟩
def gL.length{w:World}{S:Nat->Prop}{n:Nat}:∀ (ds:List D) {l:List Value},gL w S ds l->(∀ d∈ds,d.size=n)->l.length=ds.length * n
 | [],_,h,_=>by rw[show _=[] from h];simp
 | d::ds,_,h,hn=>by
  obtain⟨c,r,rfl,h2,h3⟩:=h;rw[b1l,Rd.length d h2,hn d (by simp),gL.length ds h3 (λ d hd=>hn d (by simp[hd])),b0Z,b2a];omega
def gL.row{w:World}{S:Nat->Prop}:∀ (ds:List D) {l:List Value} (b o:Nat),gL w S ds l->cG w b o l->eH w S ds b o
 | [],_,_,_,_,_=>trivial
 | d::ds,_,b,o,h,hc=>by
  obtain⟨c,r,rfl,h2,h3⟩:=h;refine⟨⟨c,Rd.length d h2,h2,λ j v hj=>hc j v ?_⟩,gL.row ds b _ h3 λ j v hj=>?_⟩
  .rw[b2N]
   .exact hj
   .exact (b1K.1 hj).1
  .have:=hc (c.length+j) v (by rw[List.getElem?_append_right (by omega)];simpa using hj);rwa [Rd.length d h2,<-Nat.add_assoc] at this
def eH.cells{w:World}{S:Nat->Prop}:∀ (ds:List D) (b o:Nat),eH w S ds b o->∃ l,gL w S ds l/\cG w b o l
 | [],_,_,_=>⟨[],rfl,λ j v h=>by simp at h⟩
 | d::ds,b,o,h=>by
  obtain⟨⟨c,h1,h2,h3⟩,h4⟩:=h;obtain⟨r,h5,h6⟩:=eH.cells ds b _ h4;refine⟨c++r,⟨c,r,rfl,h2,h5⟩,λ j v hj=>?_⟩;rcases b1R j c.length with bX|YT
  .exact h3 j v (by rwa [b2N bX] at hj)
  .rw[b2m YT] at hj;have:=h6 (j - c.length) v hj;rwa [<-h1,show o+c.length+(j - c.length)=o+j by omega] at this
def gL.at_{w:World}{S:Nat->Prop}{n:Nat}:∀ (ds:List D) {l:List Value},gL w S ds l->(∀ d∈ds,d.size=n)->∀ i d,ds[i]?=some d->Rd w S d ((l.drop (i * n)).take n)
 | [],_,_,_,i,d,h=>by simp at h
 | e::ds,_,h,hn,0,d,hi=>by
  obtain⟨c,r,rfl,h2,h3⟩:=h;simp at hi;subst hi;have:c.length=n:=by rw[Rd.length _ h2];exact hn _ (by simp)
  simpa [<-this] using h2
 | e::ds,_,h,hn,i+1,d,hi=>by
  obtain⟨c,r,rfl,h2,h3⟩:=h;have hc:c.length=n:=by rw[Rd.length _ h2];exact hn _ (by simp)
  have:=gL.at_ ds h3 (λ d hd=>hn d (by simp[hd])) i d (by simpa using hi);have h0:List.drop (n+i * n) c=[]:=List.drop_eq_nil_of_le (by omega);rw[show (i+1) * n=n+i * n by rw[Nat.add_mul];omega,List.drop_append,h0,List.nil_append,show n+i * n - c.length=i * n by omega];exact this
def xR:Value->Bool
 | .int .. | .bool _ | .string _ | .slice .. | .pointer _=>true
 | _=>false
def D.leaf:D->Bool
 | .agg _=>false
 | _=>true
def Rd.xR{w:World}{S:Nat->Prop}{d:D}(hd:d.leaf=true){cs:List Value}(h:Rd w S d cs):∃ v,cs=[v]/\YtmjfpcajohhbeaaGreatDoor.xR v=true:=by
 cases d with
 | int k n=>exact⟨_,h.1,rfl⟩
 | bool b=>exact⟨_,h,rfl⟩
 | str s=>obtain⟨x,h,_⟩:=h;exact⟨_,h,rfl⟩
 | slice n xs=>obtain⟨a,cap,h,_⟩:=h;exact⟨_,h,rfl⟩
 | agg ds=>cases hd
 | hole=>obtain⟨a,n,m,h⟩:=h;exact⟨_,h,rfl⟩
 | ptr=>obtain⟨p,h⟩:=h;exact⟨_,h,rfl⟩
def B5{v:Value}(h:YtmjfpcajohhbeaaGreatDoor.xR v=true):v.oneCell'=true:=by cases v<;>first|rfl|cases h
def OY{v:Value}(h:YtmjfpcajohhbeaaGreatDoor.xR v=true):v.cells = #[v]:=by cases v<;>first|rfl|cases h
def QN{α:Type}(n:Nat)(f:α->D)(o:Option (List α)):(mvD n f o).leaf=true:=by cases o<;>rfl
def aY.tT(s:aY)(x:s.den):∀ v∈s.cells x,v.bc.leaf=true:=by
 cases s<;>simp[aY.cells,TV.bc,Ty.bc,D.leaf]<;>exact QN _ _ _
mutual
def Ow(w:World):D->List Value->List Nat->Prop
 | .int k n,cs,fp=>(cs=[.int k n]/\k.min<=n/\n<=k.max)/\fp=[]
 | .bool b,cs,fp=>cs=[.bool b]/\fp=[]
 | .str s,cs,fp=>(∃ x:ByteArray,cs=[.string x]/\x.data.toList=s/\x.size<=140737488355328)/\fp=[]
 | .slice n xs,cs,fp=>∃ a cap,cs=[.slice a xs.length cap]/\xs.length<=cap/\cap<=maxLen/\xs.length<=140737488355328 /\
   ((xs=[]/\(a=none/\cap=0)/\fp=[])\/∃ b f l t,a=some ⟨b,0,none⟩/\fp=b::f/\w.heap[b]?=some (.cells l.toArray t (0,0))/\l.length=cap * n/\cm w xs l f)
 | .agg ds,cs,fp=>dE w ds cs fp
 | .hole,cs,fp=>(∃ a n m,cs=[.slice a n m])/\fp=[]
 | .ptr,cs,fp=>(∃ p,cs=[.pointer p])/\fp=[]
def dE(w:World):List D->List Value->List Nat->Prop
 | [],cs,fp=>cs=[]/\fp=[]
 | d::ds,cs,fp=>∃ v r f1 f2,cs=v::r/\fp=f1++f2/\Ow w d [v] f1/\dE w ds r f2
def cm(w:World):List D->List Value->List Nat->Prop
 | [],_,fp=>fp=[]
 | d::ds,l,fp=>∃ c r f1 f2,l=c++r/\fp=f1++f2/\Ow w d c f1/\cm w ds r f2
end
def dE.length{w:World}:∀ (ds:List D) {cs:List Value} {fp:List Nat},dE w ds cs fp->cs.length=ds.length
 | [],_,_,h=>by rw[h.1];rfl
 | d::ds,_,_,h=>by
  obtain⟨v,r,f1,f2,rfl,_,_,h4⟩:=h;simp[dE.length ds h4]
def Ow.length{w:World}(d:D){cs:List Value}{fp:List Nat}(h:Ow w d cs fp):cs.length=d.size:=by
 cases d with
 | int k n=>rw[h.1.1];rfl
 | bool b=>rw[h.1];rfl
 | str s=>obtain⟨⟨x,h,_⟩,_⟩:=h;rw[h];rfl
 | slice n xs=>obtain⟨a,cap,h,_⟩:=h;rw[h];rfl
 | agg ds=>exact dE.length ds h
 | hole=>obtain⟨⟨a,n,m,h⟩,_⟩:=h;rw[h];rfl
 | ptr=>obtain⟨⟨p,h⟩,_⟩:=h;rw[h];rfl
def HO{w:World}{b:Nat}{p c r:List Value}{t:TypeId}(h:w.heap[b]?=some (.cells (p++(c++r)).toArray t (0,0))):cG w b p.length c:=by
 intro j v hj;have hl:j<c.length:=(b1K.1 hj).1;have h2:(p++(c++r))[p.length+j]?=some v:=by
  rw[b2m (by omega),b3b,b2N hl];exact hj
 simp[World.cell?,h,h2]
mutual
def Ow.rd{w:World}{S:Nat->Prop}:∀ (d:D) {cs:List Value} {fp:List Nat},Ow w d cs fp->(∀ b∈fp,S b)->Rd w S d cs
 | .int _ _,_,_,h,_=>h.1
 | .bool _,_,_,h,_=>h.1
 | .str _,_,_,h,_=>h.1
 | .slice n xs,_,_,h,hS=>by
  obtain⟨a,cap,h1,h2,h3,h4,h5⟩:=h;refine⟨a,cap,h1,h2,h3,h4,h5.imp And.left ?_⟩;rintro⟨b,f,l,t,rfl,rfl,hb,_,hr⟩;exact⟨b,0,rfl,hS b (by simp),cm.rd xs (p:=[]) (by simpa using hb) hr (λ b hb=>hS b (by simp[hb]))⟩
 | .agg ds,_,_,h,hS=>dE.rd ds h hS
 | .hole,_,_,h,_=>h.1
 | .ptr,_,_,h,_=>h.1
def dE.rd{w:World}{S:Nat->Prop}:∀ (ds:List D) {cs:List Value} {fp:List Nat},dE w ds cs fp->(∀ b∈fp,S b)->eb w S ds cs
 | [],_,_,h,_=>h.1
 | d::ds,_,_,h,hS=>by
  obtain⟨v,r,f1,f2,h1,rfl,h3,h4⟩:=h;exact⟨v,r,h1,Ow.rd d h3 λ b hb=>hS b (by simp[hb]),dE.rd ds h4 λ b hb=>hS b (by simp[hb])⟩
def cm.rd{w:World}{S:Nat->Prop}{b:Nat}{t:TypeId}:∀ (ds:List D) {p l:List Value} {fp:List Nat},w.heap[b]?=some (.cells (p++l).toArray t (0,0))->cm w ds l fp->(∀ b∈fp,S b)->eH w S ds b p.length
 | [],_,_,_,_,_,_=>trivial
 | d::ds,p,_,_,hb,h,hS=>by
  obtain⟨c,r,f1,f2,rfl,rfl,h3,h4⟩:=h;have hl:=Ow.length d h3;refine⟨⟨c,hl,Ow.rd d h3 λ b hb=>hS b (by simp[hb]),HO hb⟩,?_⟩;have:=cm.rd ds (p:=p++c) (l:=r) (by simpa using hb) h4 (λ b hb=>hS b (by simp[hb]));rw[<-hl];simpa using this
end
mutual
def Ow.bd{w w':World}:∀ (d:D) {cs:List Value} {fp:List Nat},Ow w d cs fp->(∀ b∈fp,w'.heap[b]?=w.heap[b]?)->Ow w' d cs fp
 | .int _ _,_,_,h,_=>h
 | .bool _,_,_,h,_=>h
 | .str _,_,_,h,_=>h
 | .slice n xs,_,_,h,hw=>by
  obtain⟨a,cap,h1,h2,h3,h4,h5⟩:=h;refine⟨a,cap,h1,h2,h3,h4,h5.imp id ?_⟩;rintro⟨b,f,l,t,rfl,rfl,hb,hc,hr⟩;exact⟨b,f,l,t,rfl,rfl,by rw[hw b (by simp)];exact hb,hc,cm.bd xs hr λ b hb=>hw b (by simp[hb])⟩
 | .agg ds,_,_,h,hw=>dE.bd ds h hw
 | .hole,_,_,h,_=>h
 | .ptr,_,_,h,_=>h
def dE.bd{w w':World}:∀ (ds:List D) {cs:List Value} {fp:List Nat},dE w ds cs fp->(∀ b∈fp,w'.heap[b]?=w.heap[b]?)->dE w' ds cs fp
 | [],_,_,h,_=>h
 | d::ds,_,_,h,hw=>by
  obtain⟨v,r,f1,f2,h1,rfl,h3,h4⟩:=h;exact⟨v,r,f1,f2,h1,rfl,Ow.bd d h3 λ b hb=>hw b (by simp[hb]),dE.bd ds h4 λ b hb=>hw b (by simp[hb])⟩
def cm.bd{w w':World}:∀ (ds:List D) {l:List Value} {fp:List Nat},cm w ds l fp->(∀ b∈fp,w'.heap[b]?=w.heap[b]?)->cm w' ds l fp
 | [],_,_,h,_=>h
 | d::ds,_,_,h,hw=>by
  obtain⟨c,r,f1,f2,h1,rfl,h3,h4⟩:=h;exact⟨c,r,f1,f2,h1,rfl,Ow.bd d h3 λ b hb=>hw b (by simp[hb]),cm.bd ds h4 λ b hb=>hw b (by simp[hb])⟩
end
mutual
def D.light:D->Bool
 | .slice .. => false
 | .agg ds=>D.Jw ds
 | _=>true
def D.Jw:List D->Bool
 | []=>true
 | d::ds=>d.light&&D.Jw ds
end
mutual
def Ow.iv{w:World}{S:Nat->Prop}:∀ (d:D) {cs:List Value},d.light=true->Rd w S d cs->Ow w d cs []
 | .int _ _,_,_,h=>⟨h,rfl⟩
 | .bool _,_,_,h=>⟨h,rfl⟩
 | .str _,_,_,h=>⟨h,rfl⟩
 | .slice n xs,_,hl,h=>by
  obtain⟨a,cap,h1,h2,h3,h4,h5⟩:=h;cases hl
 | .agg ds,_,hl,h=>dE.iv ds hl h
 | .hole,_,_,h=>⟨h,rfl⟩
 | .ptr,_,_,h=>⟨h,rfl⟩
def dE.iv{w:World}{S:Nat->Prop}:∀ (ds:List D) {cs:List Value},D.Jw ds=true->eb w S ds cs->dE w ds cs []
 | [],_,_,h=>⟨h,rfl⟩
 | d::ds,_,hl,h=>by
  obtain⟨v,r,h1,h2,h3⟩:=h;simp only[D.Jw,b0R] at hl;exact⟨v,r,[],[],h1,rfl,Ow.iv d hl.1 h2,dE.iv ds hl.2 h3⟩
end
def cm.iv{w:World}{S:Nat->Prop}:∀ (ds:List D) {l m:List Value},(∀ d∈ds,d.light=true)->gL w S ds l->cm w ds (l++m) []
 | [],_,_,_,_=>rfl
 | d::ds,_,m,hl,h=>by
  obtain⟨c,r,rfl,h2,h3⟩:=h;exact⟨c,r++m,[],[],by simp,rfl,Ow.iv d (hl d (by simp)) h2,cm.iv ds (λ d hd=>hl d (by simp[hd])) h3⟩
def KV{α:Type}(c r:List α)(k:Nat):(c++r).drop (c.length+k)=r.drop k:=by
 rw[<-b2u,b2Z]
def C8{α:Type}(c r:List α)(k:Nat):(c++r).take (c.length+k)=c++r.take k:=by
 rw[b4j,b1v (by omega),b3b]
def cm.split{w:World}{n:Nat}:∀ (ds:List D) {l:List Value} {fp:List Nat} (i:Nat) (d:D),cm w ds l fp->(∀ d∈ds,d.size=n)->ds[i]?=some d ->
  ∃ f0 f1 f2,fp=f0++f1++f2/\i * n+n<=l.length/\Ow w d ((l.drop (i * n)).take n) f1 /\
   ∀ (w':World) (d':D) (c':List Value) (mc:List Nat),(∀ b∈f0++f2,w'.heap[b]?=w.heap[b]?)->c'.length=n->Ow w' d' c' mc->cm w' (ds.set i d') (l.take (i * n)++c'++l.drop (i * n+n)) (f0++mc++f2)
 | [],_,_,_,_,_,_,h=>by simp at h
 | e::ds,l,fp,0,d,h,hn,hi=>by
  obtain⟨c,r,f1,f2,rfl,rfl,h3,h4⟩:=h;simp at hi;subst hi;have hc:c.length=n:=by rw[Ow.length _ h3];exact hn _ (by simp)
  refine⟨[],f1,f2,by simp,by simp;omega,?_,λ w' d' c' mc hw SU GU=>?_⟩
  .simp only[b3K,b2S];rw[<-hc,b2T];exact h3
  .simp only[b3K,b1V,b1F,b2W,b3V];rw[<-hc,b2Z];exact⟨c',r,mc,f2,rfl,rfl,GU,cm.bd ds h4 λ b hb=>hw b (by simp[hb])⟩
 | e::ds,l,fp,i+1,d,h,hn,hi=>by
  obtain⟨c,r,g1,g2,rfl,rfl,h3,h4⟩:=h;have hc:c.length=n:=by rw[Ow.length _ h3];exact hn _ (by simp)
  obtain⟨f0,f1,f2,rfl,hlen,k1,k2⟩:=cm.split ds i d h4 (λ d hd=>hn d (by simp[hd])) (by simpa using hi);have e1:(i+1) * n=c.length+i * n:=by rw[hc,Nat.add_mul];omega
  have e2:(i+1) * n+n=c.length+(i * n+n):=by omega
  refine⟨g1++f0,f1,f2,by simp,by simp;omega,?_,λ w' d' c' mc hw SU GU=>?_⟩
  .rw[e1,KV];exact k1
  .rw[e1,show c.length+i * n+n=c.length+(i * n+n) by omega,C8,KV];have:=k2 w' d' c' mc (λ b hb=>hw b (by simp at hb ⊢;rcases hb with hb|hb<;>simp[hb])) SU GU;rw[show (e::ds).set (i+1) d'=e::ds.set i d' from rfl];exact⟨c,r.take (i * n)++c'++r.drop (i * n+n),g1,f0++mc++f2,by simp,by simp,Ow.bd e h3 λ b hb=>hw b (by simp[hb]),this⟩
open Go.MapKept
def yJ(τ:Ty)(x:τ.den)(v:Value):Prop:=∀ (w:World) (S:Nat->Prop),Rd w S (τ.bc x) [v]
theorem yJ.of{τ:Ty}(nH:τ.key=true){x:τ.den}{v:Value}{w:World}{S:Nat->Prop}(h:Rd w S (τ.bc x) [v]):yJ τ x v:=by
 intro w' S';cases τ with
 | int k=>exact h
 | bool=>exact h
 | str=>exact h
 | _=>cases nH
theorem yJ.val{τ:Ty}(nH:τ.key=true){x y:τ.den}{v:Value}(h:yJ τ x v)(k:yJ τ y v)(w:World):x=y:=by
 have h:=h w (λ _=>False);have k:=k w (λ _=>False);cases τ with
 | int q =>
  simp only[Ty.bc,Rd,List.cons.injEq,and_true] at h k;obtain⟨rfl,_⟩:=h;exact (by simpa using k.1)
 | bool =>
  simp only[Ty.bc,Rd,List.cons.injEq,and_true] at h k;subst h;simpa using k
 | str =>
  obtain⟨a,h1,h2,_⟩:=h;obtain⟨b,k1,k2,_⟩:=k;simp only[b0T,b1b] at h1 k1;subst h1;simp only[Value.string.injEq] at k1;subst k1;exact h2.symm.trans k2
 | _=>cases nH
theorem yJ.inj{τ:Ty}(nH:τ.key=true){x:τ.den}{v u:Value}(h:yJ τ x v)(k:yJ τ x u)(w:World):v=u:=by
 have h:=h w (λ _=>False);have k:=k w (λ _=>False);cases τ with
 | int q =>
  simp only[Ty.bc,Rd,b0T,b1b] at h k;exact h.1.trans k.1.symm
 | bool =>
  simp only[Ty.bc,Rd,b0T,b1b] at h k;exact h.trans k.symm
 | str =>
  obtain⟨⟨⟨a⟩⟩,h1,h2,_⟩:=h;obtain⟨⟨⟨b⟩⟩,k1,k2,_⟩:=k;simp only[b0T,b1b] at h1 k1;simp only at h2 k2;rw[h1,k1,h2,k2]
 | _=>cases nH
def descOf:Ty->TypeDesc
 | .int k => .int k
 | .str => .string
 | _ => .bool
theorem yJ.isKey{τ:Ty}(nH:τ.key=true){x:τ.den}{v:Value}(h:yJ τ x v)(w:World):IsKey (descOf τ) v:=by
 have h:=h w (λ _=>False);cases τ with
 | int q =>
  simp only[Ty.bc,Rd,b0T,b1b] at h;obtain⟨rfl,_⟩:=h;rfl
 | bool =>
  simp only[Ty.bc,Rd,b0T,b1b] at h;subst h;trivial
 | str =>
  obtain⟨a,h1,h2,_⟩:=h;simp only[b0T,b1b] at h1;subst h1;trivial
 | _=>cases nH
structure Nq(m:MV)(es:Array MapEntry):Prop where
 sk:m.κ.key=true
 se:m.ε.key=true
 len:es.size=m.n
 small:m.n<=1000000000
 nd:es.toList.Pairwise λ x y=>x.key≠y.key
 ent:∀ e∈es.toList,∃ k v,yJ m.κ k e.key/\yJ m.ε v e.val/\m.f k=some v
 all:∀ k v,m.f k=some v->∃ e∈es.toList,yJ m.κ k e.key
section
variable {P:Program} {w:World} {m:MV} {es:Array MapEntry} {clock b:Nat} {T kT eT:TypeId}
theorem Nq.found(h:Nq m es){k:m.κ.den}{v:Value}(hv:yJ m.κ k v)(w:World) :
  (Instr.findNow (descOf m.κ) v es.toList 0=some none/\(∀ e∈es.toList,e.key≠v)/\m.f k=none) \/
  ∃ j e x,Instr.findNow (descOf m.κ) v es.toList 0=some (some (j,e.val))/\es.toList[j]?=some e/\e.key=v/\m.f k=some x/\yJ m.ε x e.val:=by
 have hk:∀ e∈es.toList,IsKey (descOf m.κ) e.key:=λ e he=>by
  obtain⟨k',v',h1,_⟩:=h.ent e he;exact h1.isKey h.sk w
 rcases findNow_spec (hv.isKey h.sk w) es.toList 0 hk with ⟨h1,h2⟩|⟨j,e,h1,h2,h3⟩
 .refine .inl ⟨h1,h2,?_⟩;cases hf:m.f k with
  | none=>rfl
  | some x =>
   obtain⟨e,he,hke⟩:=h.all k x hf;exact absurd (hke.inj h.sk hv w) (h2 e he)
 .obtain⟨k',x,k1,k2,k3⟩:=h.ent e (List.mem_of_getElem? h2);have:k'=k:=k1.val h.sk (h3 ▸ hv) w;subst this;exact .inr ⟨j,e,x,by simpa using h1,h2,h3,k3,k2⟩
theorem Nq.ah(h:Nq m es)(hT:P.underlying T=some (.map kT eT))(hk:P.underlying kT=some (descOf m.κ))(hb:w.heap[b]?=some (.map es clock)){z:Value}(hz:(zeroValue eT).run P w = .ok z w)(hzr:yJ m.ε m.ε.zero z)
  {k:m.κ.den} {v:Value} (hv:yJ m.κ k v) (c:Bool):∃ u,yJ m.ε ((m.f k).getD m.ε.zero) u/\(Instr.lookup T (.map (some b)) v c).run P w = .ok (if c then .tuple #[u, .bool (m.f k).isSome] else u) w:=by
 rcases h.found hv w with ⟨h1,h2,h3⟩|⟨j,e,x,h1,h2,h3,h4,h5⟩
 .refine⟨z,by rw[h3];exact hzr,?_⟩;rw[h3];simp[Instr.lookup,b1Q hT,b3i hb,run_checkKey hk (hv.isKey h.sk w),run_findKey hk h1,hz,Result.andThen]
 .refine⟨e.val,by rw[h4];exact h5,?_⟩;rw[h4];simp[Instr.lookup,b1Q hT,b3i hb,run_checkKey hk (hv.isKey h.sk w),run_findKey hk h1,Result.andThen]
theorem VE{α β:Type}(f:α->Option β)(k:α)(v:β):Lj f k v k=some v:=by simp[Lj]
theorem Ce{α β:Type}(f:α->Option β)(k:α)(v:β){x:α}(h:x≠k):Lj f k v x=f x:=by simp[Lj,h]
theorem Ll{α:Type}{R:α->α->Prop}{a b:α}:∀ {l:List α} {j:Nat},l.Pairwise R->l[j]?=some a->(∀ x,R a x->R b x)->(∀ x,R x a->R x b)->(l.set j b).Pairwise R
 | [],j,h,hj,h1,h2=>by simp at hj
 | y::ys,0,h,hj,h1,h2=>by
  simp only[b4o,b0L] at hj;subst hj;obtain⟨k1,k2⟩:=b3C.1 h;exact b3C.2 ⟨λ x hx=>h1 x (k1 x hx),k2⟩
 | y::ys,j+1,h,hj,h1,h2=>by
  obtain⟨k1,k2⟩:=b3C.1 h;simp only[List.getElem?_cons_succ] at hj;refine b3C.2 ⟨λ x hx=>?_,Ll k2 hj h1 h2⟩;rcases List.mem_or_eq_of_mem_set hx with hx|rfl
  .exact k1 x hx
  .exact h2 y (k1 a (b2o hj))
theorem Nq.store(h:Nq m es)(hT:P.underlying T=some (.map kT eT))(hk:P.underlying kT=some (descOf m.κ))(hb:w.heap[b]?=some (.map es clock))
  {k:m.κ.den} {v:Value} (hv:yJ m.κ k v) {x:m.ε.den} {u:Value} (hu:yJ m.ε x u) (hn:m.n<1000000000) :
  ∃ es' TH,(Instr.mapUpdate T (.map (some b)) v u).run P w = .ok () { w with heap:=w.heap.setIfInBounds b (.map es' TH) }/\Nq ⟨m.κ,m.ε,Lj m.f k x,Sq (m.f k) m.n⟩ es':=by
 have hK:=hv.isKey h.sk w;rcases h.found hv w with ⟨h1,h2,h3⟩|⟨j,e,y,h1,h2,h3,h4,h5⟩
 .refine⟨es.push ⟨v,u,clock⟩,clock+1,?_,?_⟩
  .simp[Instr.mapUpdate,b1Q hT,b3i hb,run_checkKey hk hK,run_findKey hk h1,run_setObj_map _ hb,Result.andThen]
  .refine⟨h.sk,h.se,?_,by simp[Sq,h3];omega,?_,?_,?_⟩
   .simp[Sq,h3,h.len]
   .simp only[b4c];refine List.pairwise_append.2 ⟨h.nd,by simp,λ a ha b' cO=>?_⟩;simp only[b1x] at cO;subst cO;exact h2 a ha
   .intro e he;simp only[b4c,b0Q,b1x] at he;rcases he with he|rfl
    .obtain⟨k',v',k1,k2,k3⟩:=h.ent e he;refine⟨k',v',k1,k2,?_⟩;show Lj m.f k x k'=some v';rw[Ce _ _ _ (λ e1=>h2 e he ((e1 ▸ k1).inj h.sk hv w))];exact k3
    .exact⟨k,x,hv,hu,VE _ _ _⟩
   .intro k' v' hf;by_cases hkk:k'=k
    .exact⟨⟨v,u,clock⟩,by simp,by rw[hkk];exact hv⟩
    .have hf':m.f k'=some v':=by rw[<-Ce m.f k x hkk];exact hf
     obtain⟨e,he,hke⟩:=h.all k' v' hf';exact⟨e,by simp only[b4c,b0Q];exact .inl he,hke⟩
 .have hj:es[j]?=some e:=by simpa using h2
  have YV:(es.modify j (λ e'=>{ e' with key:=v,val:=u })).toList=es.toList.set j { e with key:=v,val:=u }:=by
   rw[Array.toList_modify];apply b3F;intro i;simp only[List.getElem?_modify,b3G];by_cases DV:j=i
   .subst DV;have hl:=(b1K.1 h2).1;simp only[b1q,b1q hl];rw[h2];rfl
   .simp[DV]
  refine⟨es.modify j (λ e'=>{ e' with key:=v,val:=u }),clock,?_,?_⟩
  .simp[Instr.mapUpdate,b1Q hT,b3i hb,run_checkKey hk hK,run_findKey hk h1,hj,h3,run_keyThatStays hK,run_setObj_map _ hb,Result.andThen]
  .have oth:∀ x'∈es.toList.set j { e with key:=v,val:=u },x'={ e with key:=v,val:=u }\/(x'∈es.toList/\x'.key≠v):=by
    intro x' hx;obtain⟨i,hi,ex⟩:=b3v hx;rw[List.getElem_set] at ex;split at ex
    .exact .inl ex.symm
    .rename_i gU;have rW:i<es.toList.length:=by simpa using hi
     refine .inr ⟨ex ▸ b2d rW,λ hxv=>?_⟩;have WT:j<es.toList.length:=(b1K.1 h2).1;have hje:es.toList[j]=e:=(b1K.1 h2).2;have hpw:=List.pairwise_iff_getElem.1 h.nd;rcases Nat.lt_or_gt_of_ne gU with hl|hl
     .exact hpw j i WT rW hl (by rw[hje,ex,h3,hxv])
     .exact hpw i j rW WT hl (by rw[hje,ex,h3,hxv])
   refine⟨h.sk,h.se,?_,by simp[Sq,h4];omega,?_,?_,?_⟩
   .simp[Sq,h4,h.len]
   .rw[YV];exact Ll h.nd h2 (λ x' hx=>by rw[<-h3];exact hx) (λ x' hx=>by rw[<-h3];exact hx)
   .intro e' DT;rw[YV] at DT;rcases oth e' DT with rfl|⟨he,gU⟩
    .exact⟨k,x,hv,hu,VE _ _ _⟩
    .obtain⟨k',v',k1,k2,k3⟩:=h.ent e' he;refine⟨k',v',k1,k2,?_⟩;show Lj m.f k x k'=some v';rw[Ce _ _ _ (λ e1=>gU ((e1 ▸ k1).inj h.sk hv w))];exact k3
   .intro k' v' hf;by_cases hkk:k'=k
    .refine⟨{ e with key:=v,val:=u },?_,(show k'=k from hkk).symm ▸ hv⟩;rw[YV];exact List.mem_iff_getElem.2 ⟨j,by simpa using (List.getElem?_eq_some_iff.1 h2).1,by simp⟩
    .have hf':m.f k'=some v':=by rw[<-Ce m.f k x hkk];exact hf
     obtain⟨e',DT,hke⟩:=h.all k' v' hf';refine⟨e',?_,hke⟩;rw[YV];obtain⟨i,hi,ex⟩:=b3v DT;have DV:j≠i:=by
      intro e1;subst e1;have hje:es.toList[j]=e:=(b1K.1 h2).2;have:e'=e:=ex ▸ hje;subst this;exact hkk ((h3 ▸ hke).val h.sk hv w)
     exact List.mem_iff_getElem.2 ⟨i,by simpa using hi,by rw[List.getElem_set_ne DV];exact ex⟩
end
end Go.Proofs.YtmjfpcajohhbeaaGreatDoor

namespace Go.Proofs.YtmjfpcajohhbeaaGreatDoor
def bf{α β:Type}(R:α->β->Prop):List α->List β->Prop
 | [],[]=>True
 | a::Z9,b::bs=>R a b/\bf R Z9 bs
 | _,_=>False
theorem bf.length{α β:Type}{R:α->β->Prop}:∀ {Z9:List α} {bs:List β},bf R Z9 bs->Z9.length=bs.length
 | [],[],_=>rfl
 | _::_,_::_,h=>by simp[bf.length h.2]
 | [],_::_,h=>h.elim
 | _::_,[],h=>h.elim
theorem bf.imp{α β:Type}{R R':α->β->Prop}:∀ {Z9:List α} {bs:List β},bf R Z9 bs->(∀ a b,a∈Z9->R a b->R' a b)->bf R' Z9 bs
 | [],[],_,_=>trivial
 | _::_,_::_,h,k=>⟨k _ _ (by simp) h.1,bf.imp h.2 λ a b ha=>k a b (by simp[ha])⟩
 | [],_::_,h,_=>h.elim
 | _::_,[],h,_=>h.elim
theorem bf.at_{α β:Type}{R:α->β->Prop}:∀ {Z9:List α} {bs:List β},bf R Z9 bs->∀ (i:Nat) a,Z9[i]?=some a->∃ b,bs[i]?=some b/\R a b
 | [],[],_,i,a,h=>by simp at h
 | _::_,b::_,h,0,a,hi=>by simp at hi;subst hi;exact⟨b,rfl,h.1⟩
 | _::_,_::_,h,i+1,a,hi=>by simpa using bf.at_ h.2 i a (by simpa using hi)
 | [],_::_,h,_,_,_=>h.elim
 | _::_,[],h,_,_,_=>h.elim
theorem bf.append{α β:Type}{R:α->β->Prop}:∀ {Z9:List α} {bs:List β} {as' bs'},bf R Z9 bs->bf R as' bs'->bf R (Z9++as') (bs++bs')
 | [],[],_,_,_,k=>k
 | _::_,_::_,_,_,h,k=>⟨h.1,bf.append h.2 k⟩
 | [],_::_,_,_,h,_=>h.elim
 | _::_,[],_,_,h,_=>h.elim
theorem bf.take{α β:Type}{R:α->β->Prop}(n:Nat):∀ {Z9:List α} {bs:List β},bf R Z9 bs->bf R (Z9.take n) (bs.take n):=by
 induction n with
 | zero=>intro Z9 bs _;simp[bf]
 | succ n ih =>
  intro Z9 bs h;match Z9,bs,h with
  | [],[],_=>simp[bf]
  | _::_,_::_,h=>exact⟨h.1,ih h.2⟩
theorem bf.drop{α β:Type}{R:α->β->Prop}(n:Nat):∀ {Z9:List α} {bs:List β},bf R Z9 bs->bf R (Z9.drop n) (bs.drop n):=by
 induction n with
 | zero=>intro Z9 bs h;simpa using h
 | succ n ih =>
  intro Z9 bs h;match Z9,bs,h with
  | [],[],_=>simp[bf]
  | _::_,_::_,h=>exact ih h.2
theorem bf.fX{α β γ:Type}{R:γ->β->Prop}(f:α->γ):∀ {Z9:List α} {bs:List β},bf (λ a b=>R (f a) b) Z9 bs->bf R (Z9.map f) bs
 | [],[],_=>trivial
 | _::_,_::_,h=>⟨h.1,bf.fX f h.2⟩
 | [],_::_,h=>h.elim
 | _::_,[],h=>h.elim
theorem bf.of_map{α β γ:Type}{R:γ->β->Prop}(f:α->γ):∀ {Z9:List α} {bs:List β},bf R (Z9.map f) bs->bf (λ a b=>R (f a) b) Z9 bs
 | [],[],_=>trivial
 | _::_,_::_,h=>⟨h.1,bf.of_map f h.2⟩
 | [],_::_,h=>h.elim
 | _::_,[],h=>h.elim
theorem eb.eL{w:World}{S:Nat->Prop}:∀ {vs:List TV} {cs:List Value},eb w S (vs.map TV.bc) cs↔bf (λ v x=>Rd w S v.bc [x]) vs cs
 | [],[]=>by simp[eb,bf]
 | [],_::_=>by simp[eb,bf]
 | v::vs,[]=>by simp[eb,bf]
 | v::vs,x::cs=>by
  simp only[b1J,eb,bf];constructor
  .rintro⟨y,r,h1,h2,h3⟩;simp only[b0T] at h1;obtain⟨rfl,rfl⟩:=h1;exact⟨h2,eb.eL.1 h3⟩
  .rintro⟨h1,h2⟩;exact⟨x,cs,rfl,h1,eb.eL.2 h2⟩
structure bV(X:Nat->Prop)(w w':World):Prop where
 os:w'.os=w.os
 tape:w'.tape=w.tape
 output:w'.output=w.output
 size:w.heap.size<=w'.heap.size
 block:∀ b,b<w.heap.size->¬ X b->w'.heap[b]?=w.heap[b]?
theorem bV.refl(X:Nat->Prop)(w:World):bV X w w:=⟨rfl,rfl,rfl,b1E _,λ _ _ _=>rfl⟩
theorem bV.trans{X Y:Nat->Prop}{a b c:World}(h:bV X a b)(k:bV Y b c)(hXY:∀ i,i<a.heap.size->Y i->X i):bV X a c :=
 ⟨k.os.trans h.os,k.tape.trans h.tape,k.output.trans h.output,b3a h.size k.size,
  λ i hi hx=>(k.block i (b1c hi h.size) (λ hy=>hx (hXY i hi hy))).trans (h.block i hi hx)⟩
structure Ctx where
 P:Program
 E:Env
 w0:World
 X:Nat->Prop
 S0:Nat->Prop
 R:Nat->Option Value
 Z:Nat->Prop
 RB:Nat->Option Nat
structure Gh where
 S:Nat->Prop
 η:Nat->Value
 φ:Nat->List Nat
def St(c:Ctx)(S:Nat->Prop)(b:Nat):Prop:=S b\/(b<c.w0.heap.size/\¬ c.X b/\¬ c.Z b)
def gi:Value->Option Nat
 | .pointer (some a)=>some a.block
 | .slice (some a) _ _=>some a.block
 | .map (some b)=>some b
 | _=>none
def gM(w:World)(S:Nat->Prop)(v:TV)(x:Value):Prop :=
 match v with
 | ⟨.st s,y⟩=>∃ cs,x = .agg cs.toArray/\Rd w S (s.bc y) cs
 | v=>Rd w S v.bc [x]
def Ls(w:World)(S:Nat->Prop):Arg->Value->Prop
 | .val v,x=>gM w S v x
 | .ref v,x=>∃ b o cs,x = .pointer (some ⟨b,o,none⟩)/\b<w.heap.size/\cG w b o cs/\Rd w S v.bc cs
 | .fn f,x=>x = .func (.func f) #[] #[]
 | .dO _,_=>False
 | .own _,_=>False
 | .box _,_=>False
def FR(w:World)(S:Nat->Prop):List TV->Value->Prop
 | [v],x=>gM w S v x
 | vs,x=>∃ l,x = .tuple l.toArray/\bf (gM w S) vs l
def Gok(w:World)(S:Nat->Prop):Prop:=∀ g∈a1r,S g/\∃ m,w.cell? ⟨g,0,none⟩=some (.int .i64 m)
def yI(w:World)(S:Nat->Prop):Prop:=(∀ b,S b->b<w.heap.size)/\Gok w S
theorem Gok.mono{w w':World}{S S':Nat->Prop}(h:Gok w S)(hS:∀ b,S b->S' b)(hw:∀ b,S b->w'.heap[b]?=w.heap[b]?):Gok w' S':=λ g hg=>by
 obtain⟨h1,m,h2⟩:=h g hg;exact⟨hS g h1,m,(b3o (a:=⟨g,0,none⟩) (hw g h1)).trans h2⟩
def Nr(P:Program)(f:FuncId)(args:List Arg)(post:List TV->Prop):Prop :=
 ∀ (w:World) (S:Nat->Prop) (dm:List Value),yI w S->bf (Ls w S) args dm ->
  Calls P f dm.toArray w λ e w'=>∃ x S' res,e = .returned x/\post res/\bV (λ _=>False) w w'/\(∀ b,b<w.heap.size->(S' b↔S b))/\(∀ b,S' b->b<w'.heap.size)/\FR w' S' res x
def oC (P:Program) (f:FuncId):Prop:=∃ fn,P.funcs[f]?=some fn/\fn.body.isNone=false/\(fn.name == "runtime.NumGoroutine")=false
def Jk(P:Program)(f:FuncId)(jP:List Arg):(ps:List Ty)->(r:Ty)->FN ps r->List Arg->Prop
 | [],r,F,acc=>F.1->oC P f/\Nr P f (acc++jP) (·=[⟨r,F.2⟩])
 | t::ts,r,F,acc=>∀ x,Jk P f jP ts r (F x) (acc++[.val ⟨t,x⟩])
def T0(c:Ctx)(S:Nat->Prop)(w:World):Arg->Value->Prop
 | .val v,x=>gM w S v x
 | .ref v,x=>∃ b o cs,x = .pointer (some ⟨b,o,none⟩)/\St c S b/\cG w b o cs/\Rd w S v.bc cs
 | .fn f,x=>x = .func (.func f) #[] #[]
 | .dO _,_=>False
 | .own _,_=>False
 | .box _,_=>False
def C1(c:Ctx)(G:Gh)(lk:Nat->Option aG)(w:World):AV->Value->Prop
 | .any,_=>True
 | .fO,x=>x=undef
 | .aT v,x=>v.τ.agg=false/\Rd w G.S v.bc [x]
 | .nil,x=>x = .slice none 0 0
 | .dH v,x=>∃ b o cs,x = .pointer (some ⟨b,o,none⟩)/\St c G.S b/\cG w b o cs/\Rd w G.S v.bc cs
 | .ptr id off,x=>∃ b,G.η id = .pointer (some ⟨b,0,none⟩)/\x = .pointer (some ⟨b,off,none⟩)/\jG (lk id)=true
 | .row id,x=>x=G.η id/\isRow (lk id)=true/\∃ a n m,x = .slice a n m
 | .gp id i off,x=>∃ b n cap e τ xs,G.η id = .slice (some ⟨b,0,none⟩) n cap/\lk id=some (.row e τ xs)/\i<xs.length/\x = .pointer (some ⟨b,i * τ.size+off,none⟩)
 | .fn f,x=>x = .func (.func f) #[] #[]
 | .aD id,x=>cN (lk id)=true/\∃ l,G.η id = .tuple (x::l).toArray/\∃ a n m,x = .slice a n m
 | .sub id i off sz,x=>cN (lk id)=true/\∃ a n cap l,G.η id = .tuple (.slice a n cap::l).toArray/\i<n/\l[i * sz+off]?=some x/\∃ a n m,x = .slice a n m
 | .gQ id i off sz,x=>cN (lk id)=true/\∃ b n cap l,G.η id = .tuple (.slice (some ⟨b,0,none⟩) n cap::l).toArray/\i<n/\x = .pointer (some ⟨b,i * sz+off,none⟩)
 | .me v,x=>∃ f jP l,x = .func (.func f) #[] l.toArray/\Jk c.P f jP v.ps v.r v.F []/\bf (T0 c G.S w) jP l
 | .mp id,x=>x=G.η id/\MA (lk id)=true/\∃ b,x = .map (some b)
 | .agg _,_=>False
 | .mI _,_=>False
 | .dO ..,_=>False
def TR(c:Ctx)(G:Gh)(lk:Nat->Option aG)(w:World):AV->Value->Prop
 | .any,_=>True
 | .aT v,x=>gM w G.S v x
 | .aD id,x=>C1 c G lk w (.aD id) x
 | .dH v,x=>C1 c G lk w (.dH v) x
 | .agg cs,x=>∃ l,x = .agg l.toArray/\bf (C1 c G lk w) cs l
 | _,_=>False
def CR(c:Ctx)(G:Gh)(lk:Nat->Option aG)(w:World):AV->Value->Prop
 | .aT v,x=>gM w G.S v x
 | .agg cs,x=>∃ l,x = .agg l.toArray/\bf (C1 c G lk w) cs l
 | v,x=>C1 c G lk w v x
def VR(c:Ctx)(G:Gh)(lk:Nat->Option aG)(w:World):AV->Value->Prop
 | .aT v,x=>gM w G.S v x
 | .agg cs,x=>∃ l,x = .agg l.toArray/\bf (C1 c G lk w) cs l
 | .mI vs,x=>∃ l,x = .tuple l.toArray/\bf (TR c G lk w) vs l
 | .dO f cs,x=>∃ l,x = .func (.func f) #[] l.toArray/\bf (CR c G lk w) cs l
 | v,x=>C1 c G lk w v x
def OR(c:Ctx)(G:Gh)(lk:Nat->Option aG)(w:World)(id:Nat):aG->Prop
 | .box cs=>∃ b l t,G.η id = .pointer (some ⟨b,0,none⟩)/\w.heap[b]?=some (.cells l.toArray t (0,0))/\bf (C1 c G lk w) cs l
 | .row e τ xs=>∃ l,w.ownsRow 0 e τ.size (G.η id) xs.length l/\gL w G.S (xs.map τ.bc) l/\xs.length<=140737488355328
 | .aD τ xs=>True
 | .map m=>∃ b es clock,G.η id = .map (some b)/\w.heap[b]?=some (.map es clock)/\Nq m es
def l6(w:World)(η:Value)(τ:Ty)(xs:List τ.den)(fp:List Nat):Prop :=
 ∃ v l a cap,η = .tuple (v::l).toArray/\v = .slice a xs.length cap/\xs.length<=cap/\cap<=maxLen/\xs.length<=140737488355328 /\
  ((xs=[]/\(a=none/\cap=0)/\fp=[])\/∃ b f t,a=some ⟨b,0,none⟩/\fp=b::f/\w.heap[b]?=some (.cells l.toArray t (0,0))/\l.length=cap * τ.size/\cm w (xs.map τ.bc) l f)
structure Lw(c:Ctx)(G:Gh)(lk:Nat->Option aG)(w:World):Prop where
 tr:∀ id τ xs,lk id=some (.aD τ xs)->l6 w (G.η id) τ xs (G.φ id)
 nd:∀ id τ xs,lk id=some (.aD τ xs)->(G.φ id).Nodup
 pl:∀ id τ xs b,lk id=some (.aD τ xs)->b∈G.φ id->(c.w0.heap.size<=b\/c.X b)/\¬ G.S b/\b<w.heap.size/\∀ i o,lk i=some o->gi (G.η i)≠some b
 ap:∀ id er τ bw xs dw b,lk id=some (.aD τ xs)->lk er=some (.aD bw dw)->b∈G.φ id->b∈G.φ er->id=er
def XGk(c:Ctx):Prop:=(∀ b,c.X b->b<c.w0.heap.size)/\∀ g∈a1r,c.S0 g/\¬ c.X g/\g<c.w0.heap.size/\∃ m,c.w0.cell? ⟨g,0,none⟩=some (.int .i64 m)
structure bH(c:Ctx)(G:Gh)(sl:Nat->AV)(n:Nat)(lk:Nat->Option aG)(a:Act)(w:World):Prop where
 defers:a.defers=[]
 size:a.tmps.size=n
 bd:bV c.X c.w0 w
 oB:XGk c
 gh:∀ b,b<c.w0.heap.size->¬ c.X b->(G.S b↔c.S0 b)
 sX:∀ b,c.S0 b->G.S b
 eV:∀ b,G.S b->b<w.heap.size
 aE:∀ i,VR c G lk w (sl i) (a.tmps.getD i undef)
 aR:∀ id o,lk id=some o->OR c G lk w id o
 place:∀ id o b,lk id=some o->gi (G.η id)=some b->(c.w0.heap.size<=b\/c.X b)/\¬ G.S b/\b<w.heap.size
 apart:∀ id er o o' b,lk id=some o->lk er=some o'->gi (G.η id)=some b->gi (G.η er)=some b->id=er
 aW:Lw c G lk w
 root:∀ id v,c.R id=some v->cN (lk id)=true->∃ l,G.η id = .tuple (v::l).toArray
 mG:∀ id v,c.R id=some v->50<=id/\id<100
 ep:∀ id b,c.RB id=some b->jG (lk id)=true->G.η id = .pointer (some ⟨b,0,none⟩)
 hH:∀ id b,c.RB id=some b->400000<=id
theorem bH.sOk{c:Ctx}{G:Gh}{sl:Nat->AV}{n:Nat}{lk:Nat->Option aG}{a:Act}{w:World}(h:bH c G sl n lk a w):yI w G.S:=⟨h.eV,λ g hg=>by
 obtain⟨h1,h2,h3,m,h4⟩:=h.oB.2 g hg;exact⟨h.sX g h1,m,(b3o (a:=⟨g,0,none⟩) (h.bd.block g h3 h2)).trans h4⟩⟩
theorem bH.a4R{c:Ctx}{G:Gh}{sl:Nat->AV}{n:Nat}{lk:Nat->Option aG}{a:Act}{w:World}(h:bH c G sl n lk a w){fp:List Nat}(hn:∀ b∈fp,¬ G.S b):Gok w (λ b=>b<w.heap.size/\b∉fp) :=
 h.sOk.2.mono (λ b hb=>⟨h.eV b hb,λ q=>hn b q hb⟩) λ _ _=>rfl
def ai.sl(s:ai)(i:Nat):AV:=s.aE.getD i .any
def Inv(c:Ctx)(G:Gh)(s:ai)(a:Act)(w:World):Prop:=bH c G s.sl s.aE.length s.ah a w
theorem wJ{o:Option aG}(h:isRow o=true):cN o=false:=by
 match o,h with
 | some (.row ..),_=>rfl
theorem Li{o:Option aG}(h:MA o=true):cN o=false:=by
 match o,h with
 | some (.map _),_=>rfl
def gw(o o':Option aG):Prop :=
 (jG o=true->jG o'=true)/\(∀ e τ xs,o=some (.row e τ xs)->∃ e' dw,o'=some (.row e' τ dw)/\xs.length<=dw.length)/\(cN o=true->cN o'=true)/\(MA o=true->MA o'=true)
theorem gw.refl(o:Option aG):gw o o:=⟨id,λ e τ xs h=>⟨e,xs,h,b1E _⟩,id,id⟩
theorem gw.isRow{o o':Option aG}(h:gw o o')(hr:isRow o=true):YtmjfpcajohhbeaaGreatDoor.isRow o'=true:=by
 match o,hr with
 | some (.row e τ xs),_ =>
  obtain⟨e',dw,h1,_⟩:=h.2.1 e τ xs rfl;rw[h1];rfl
section
variable {c:Ctx} {G G':Gh} {lk lk':Nat->Option aG} {w w':World}
theorem gM.mono{v:TV}{x:Value}(h:gM w G.S v x)(hS:∀ b,G.S b->G'.S b)(hw:∀ b,G.S b->w'.heap[b]?=w.heap[b]?):gM w' G'.S v x:=by
 obtain⟨τ,y⟩:=v;cases τ with
 | st s =>
  obtain⟨cs,h1,h2⟩:=h;exact⟨cs,h1,Rd.bd hS hw _ h2⟩
 | _=>exact Rd.bd hS hw _ h
theorem T0.mono{S S':Nat->Prop}{v:Arg}{x:Value}(h:T0 c S w v x)(hS:∀ b,S b->S' b)(hw:∀ b,St c S b->w'.heap[b]?=w.heap[b]?):T0 c S' w' v x:=by
 cases v with
 | val v=>exact gM.mono (G:=⟨S,λ _=>undef,λ _=>[]⟩) (G':=⟨S',λ _=>undef,λ _=>[]⟩) h hS (λ b hb=>hw b (.inl hb))
 | ref v =>
  obtain⟨b,o,cs,h1,h2,h3,h4⟩:=h;exact⟨b,o,cs,h1,h2.imp (hS b) id,h3.bd (hw b h2),Rd.bd hS (λ b hb=>hw b (.inl hb)) _ h4⟩
 | fn f=>exact h
 | dO v=>exact h
 | own v=>exact h
 | box k=>exact h
theorem C1.mono{v:AV}{x:Value}(h:C1 c G lk w v x)(hk:∀ id,v.refs id=true->gw (lk id) (lk' id)/\G'.η id=G.η id)
  (hS:∀ b,G.S b->G'.S b) (hw:∀ b,St c G.S b->w'.heap[b]?=w.heap[b]?):C1 c G' lk' w' v x:=by
 have hw':∀ b,G.S b->w'.heap[b]?=w.heap[b]?:=λ b hb=>hw b (.inl hb);cases v with
 | any=>trivial
 | fO=>exact h
 | aT v=>exact⟨h.1,Rd.bd hS hw' _ h.2⟩
 | nil=>exact h
 | dH v =>
  obtain⟨b,o,cs,h1,h2,h3,h4⟩:=h;exact⟨b,o,cs,h1,h2.imp (hS b) id,h3.bd (hw b h2),Rd.bd hS hw' _ h4⟩
 | ptr id off =>
  obtain⟨b,h1,h2,h3⟩:=h;obtain⟨k1,k2⟩:=hk id (by simp[AV.refs]);exact⟨b,k2.trans h1,h2,k1.1 h3⟩
 | row id =>
  obtain⟨h1,h2,h3⟩:=h;obtain⟨k1,k2⟩:=hk id (by simp[AV.refs]);exact⟨h1.trans k2.symm,k1.isRow h2,h3⟩
 | gp id i off =>
  obtain⟨b,n,cap,e,τ,xs,h1,h2,h3,h4⟩:=h;obtain⟨k1,k2⟩:=hk id (by simp[AV.refs]);obtain⟨e',dw,k3,k4⟩:=k1.2.1 e τ xs h2;exact⟨b,n,cap,e',τ,dw,k2.trans h1,k3,by omega,h4⟩
 | fn f=>exact h
 | aD id =>
  obtain⟨h1,l,h2,h3⟩:=h;obtain⟨k1,k2⟩:=hk id (by simp[AV.refs]);exact⟨k1.2.2.1 h1,l,k2.trans h2,h3⟩
 | sub id i off sz =>
  obtain⟨h1,a,n,cap,l,h2,h3⟩:=h;obtain⟨k1,k2⟩:=hk id (by simp[AV.refs]);exact⟨k1.2.2.1 h1,a,n,cap,l,k2.trans h2,h3⟩
 | gQ id i off sz =>
  obtain⟨h1,b,n,cap,l,h2,h3⟩:=h;obtain⟨k1,k2⟩:=hk id (by simp[AV.refs]);exact⟨k1.2.2.1 h1,b,n,cap,l,k2.trans h2,h3⟩
 | me v =>
  obtain⟨f,jP,l,h1,h2,h3⟩:=h;exact⟨f,jP,l,h1,h2,h3.imp λ u y _ hy=>hy.mono hS hw⟩
 | mp id =>
  obtain⟨h1,h2,h3⟩:=h;obtain⟨k1,k2⟩:=hk id (by simp[AV.refs]);exact⟨h1.trans k2.symm,k1.2.2.2 h2,h3⟩
 | agg cs=>exact h
 | mI vs=>exact h
 | dO f cs=>exact h
theorem qS{id:Nat}:∀ {cs:List AV} {v:AV},v∈cs->v.refs id=true->AV.jJ id cs=true
 | u::r,v,hm,hv=>by
  simp only[AV.jJ];rcases b1e.1 hm with rfl|h
  .rw[hv]
  .split
   .rfl
   .exact qS h hv
theorem CR.mono{v:AV}{x:Value}(h:CR c G lk w v x)(hk:∀ id,v.refs id=true->gw (lk id) (lk' id)/\G'.η id=G.η id)
  (hS:∀ b,G.S b->G'.S b) (hw:∀ b,St c G.S b->w'.heap[b]?=w.heap[b]?):CR c G' lk' w' v x:=by
 cases v with
 | aT v=>exact gM.mono h hS (λ b hb=>hw b (.inl hb))
 | agg cs =>
  obtain⟨l,h1,h2⟩:=h;exact⟨l,h1,h2.imp λ u y hu hy=>hy.mono (λ id bm=>hk id (by simp only[AV.refs];exact qS hu bm)) hS hw⟩
 | any=>trivial
 | fO=>exact h
 | nil=>exact C1.mono (v := .nil) h hk hS hw
 | dH v=>exact C1.mono (v := .dH v) h hk hS hw
 | ptr i o=>exact C1.mono (v := .ptr i o) h hk hS hw
 | row i=>exact C1.mono (v := .row i) h hk hS hw
 | gp i k o=>exact C1.mono (v := .gp i k o) h hk hS hw
 | fn f=>exact C1.mono (v := .fn f) h hk hS hw
 | aD i=>exact C1.mono (v := .aD i) h hk hS hw
 | sub i k o z=>exact C1.mono (v := .sub i k o z) h hk hS hw
 | gQ i k o z=>exact C1.mono (v := .gQ i k o z) h hk hS hw
 | me v=>exact C1.mono (v := .me v) h hk hS hw
 | mp i=>exact C1.mono (v := .mp i) h hk hS hw
 | mI _=>exact h
 | dO _ _=>exact h
theorem VR.mono{v:AV}{x:Value}(h:VR c G lk w v x)(hk:∀ id,v.refs id=true->gw (lk id) (lk' id)/\G'.η id=G.η id)
  (hS:∀ b,G.S b->G'.S b) (hw:∀ b,St c G.S b->w'.heap[b]?=w.heap[b]?):VR c G' lk' w' v x:=by
 have hw':∀ b,G.S b->w'.heap[b]?=w.heap[b]?:=λ b hb=>hw b (.inl hb);cases v with
 | aT v=>exact gM.mono h hS hw'
 | agg cs =>
  obtain⟨l,h1,h2⟩:=h;exact⟨l,h1,h2.imp λ u y hu hy=>hy.mono (λ id bm=>hk id (by simp only[AV.refs];exact qS hu bm)) hS hw⟩
 | mI vs =>
  obtain⟨l,h1,h2⟩:=h;refine⟨l,h1,h2.imp λ u y hu hy=>?_⟩;have qp:∀ id,u.refs id=true->gw (lk id) (lk' id)/\G'.η id=G.η id:=λ id bm=>hk id (by simp only[AV.refs];exact qS hu bm);cases u with
  | any=>trivial
  | aT v=>exact gM.mono hy hS hw'
  | aD i=>exact C1.mono (v := .aD i) hy qp hS hw
  | dH v=>exact C1.mono (v := .dH v) hy qp hS hw
  | agg cs =>
   obtain⟨l,h1,h2⟩:=hy;exact⟨l,h1,h2.imp λ u y hu hy=>hy.mono (λ id bm=>qp id (by simp only[AV.refs];exact qS hu bm)) hS hw⟩
  | _=>exact hy.elim
 | fO=>trivial
 | any=>trivial
 | nil=>exact C1.mono (v := .nil) h hk hS hw
 | dH v=>exact C1.mono (v := .dH v) h hk hS hw
 | ptr i o=>exact C1.mono (v := .ptr i o) h hk hS hw
 | row i=>exact C1.mono (v := .row i) h hk hS hw
 | gp i k o=>exact C1.mono (v := .gp i k o) h hk hS hw
 | fn f=>exact C1.mono (v := .fn f) h hk hS hw
 | aD i=>exact C1.mono (v := .aD i) h hk hS hw
 | sub i k o z=>exact C1.mono (v := .sub i k o z) h hk hS hw
 | gQ i k o z=>exact C1.mono (v := .gQ i k o z) h hk hS hw
 | me v=>exact C1.mono (v := .me v) h hk hS hw
 | mp i=>exact C1.mono (v := .mp i) h hk hS hw
 | dO f cs =>
  obtain⟨l,h1,h2⟩:=h;exact⟨l,h1,h2.imp λ u y hu hy=>hy.mono (λ id bm=>hk id (by simp only[AV.refs];exact qS hu bm)) hS hw⟩
def aG.refs(id:Nat):aG->Bool
 | .box cs=>AV.jJ id cs
 | .row .. => false
 | .aD .. => false
 | .map .. => false
theorem wj{v:Value}{e:TypeId}{size n:Nat}{l:List Value}(h:w.ownsRow 0 e size v n l):v.ownBlock=gi v:=by
 rcases h.2 with ⟨rfl,_⟩|⟨g,cap,cur,rfl,_⟩<;>rfl
theorem Lk{e:TypeId}{size n:Nat}{v:Value}{l:List Value}(h:w.ownsRow 0 e size v n l)(hb:∀ b,gi v=some b->w'.heap[b]?=w.heap[b]?):w'.ownsRow 0 e size v n l:=by
 refine⟨h.1,h.2.imp id ?_⟩;rintro⟨g,cap,cur,rfl,h1,h2,h3⟩;exact⟨g,cap,cur,rfl,h1,by rw[hb g rfl];exact h2,h3⟩
theorem OR.mono{id:Nat}{o:aG}(h:OR c G lk w id o)(gH:G'.η id=G.η id)(hb:∀ b,gi (G.η id)=some b->w'.heap[b]?=w.heap[b]?)
  (hk:∀ j,o.refs j=true->gw (lk j) (lk' j)/\G'.η j=G.η j) (hS:∀ b,G.S b->G'.S b) (hw:∀ b,St c G.S b->w'.heap[b]?=w.heap[b]?):OR c G' lk' w' id o:=by
 cases o with
 | box cs =>
  obtain⟨b,l,t,h1,h2,h3⟩:=h;refine⟨b,l,t,gH.trans h1,?_,h3.imp λ u y hu hy=>hy.mono (λ j hj=>hk j (qS hu hj)) hS hw⟩;rw[hb b (by rw[h1];rfl)];exact h2
 | row e τ xs =>
  obtain⟨l,h1,h2,h3⟩:=h;refine⟨l,?_,gL.bd hS (λ b hb=>hw b (.inl hb)) _ h2,h3⟩;rw[gH];exact Lk h1 hb
 | aD τ xs=>trivial
 | map m =>
  obtain⟨b,es,clock,h1,h2,h3⟩:=h;exact⟨b,es,clock,gH.trans h1,by rw[hb b (by rw[h1];rfl)];exact h2,h3⟩
end
theorem l6.bd{w w':World}{η:Value}{τ:Ty}{xs:List τ.den}{fp:List Nat}(h:l6 w η τ xs fp)(hw:∀ b∈fp,w'.heap[b]?=w.heap[b]?):l6 w' η τ xs fp:=by
 obtain⟨v,l,a,cap,h1,h2,h3,h4,h5,h6⟩:=h;refine⟨v,l,a,cap,h1,h2,h3,h4,h5,h6.imp id ?_⟩;rintro⟨b,f,t,k1,rfl,k2,k0,k3⟩;exact⟨b,f,t,k1,rfl,by rw[hw b (by simp)];exact k2,k0,cm.bd _ k3 λ b hb=>hw b (by simp[hb])⟩
theorem bH.world{c:Ctx}{G:Gh}{sl:Nat->AV}{n:Nat}{lk:Nat->Option aG}{a:Act}{w w':World}{S':Nat->Prop}(h:bH c G sl n lk a w)
  (jF:bV (λ b=>c.w0.heap.size<=b\/c.X b) w w') (hS:∀ b,G.S b->S' b) (a4S:∀ b,b<w.heap.size->(S' b↔G.S b)) (hX:∀ b,c.S0 b->S' b) (hLt:∀ b,S' b->b<w'.heap.size)
  (hw:∀ b,St c G.S b->w'.heap[b]?=w.heap[b]?) (qh:∀ id o b,lk id=some o->gi (G.η id)=some b->w'.heap[b]?=w.heap[b]?) (GY:∀ id τ xs b,lk id=some (.aD τ xs)->b∈G.φ id->w'.heap[b]?=w.heap[b]?) :
  bH c ⟨S',G.η,G.φ⟩ sl n lk a w' where
 defers:=h.defers
 size:=h.size
 bd:=h.bd.trans jF λ i hi hy=>hy.elim (λ h=>by omega) id
 oB:=h.oB
 gh b hb hx:=(a4S b (b1c hb h.bd.size)).trans (h.gh b hb hx)
 sX:=hX
 eV:=hLt
 aE i:=(h.aE i).mono (λ id _=>⟨gw.refl _,rfl⟩) hS hw
 aR id o ho:=(h.aR id o ho).mono rfl (λ b hb=>qh id o b ho hb) (λ j _=>⟨gw.refl _,rfl⟩) hS hw
 place id o b ho hb:=by
  obtain⟨h1,h2,h3⟩:=h.place id o b ho hb;exact⟨h1,λ hs=>h2 ((a4S b h3).1 hs),b1c h3 jF.size⟩
 apart:=h.apart
 aW:={
  tr:=λ id τ xs ht=>(h.aW.tr id τ xs ht).bd λ b hb=>GY id τ xs b ht hb
  nd:=h.aW.nd
  pl:=λ id τ xs b ht hb=>by
   obtain⟨h1,h2,h3,h4⟩:=h.aW.pl id τ xs b ht hb;exact⟨h1,λ hs=>h2 ((a4S b h3).1 hs),b1c h3 jF.size,h4⟩
  ap:=h.aW.ap }
 root:=h.root
 mG:=h.mG
 ep:=h.ep
 hH:=h.hH
theorem bH.drew{c:Ctx}{G:Gh}{sl:Nat->AV}{n:Nat}{lk:Nat->Option aG}{a:Act}{w:World}(h:bH c G sl n lk a w):bH c G sl n lk a w.drew :=
 h.world (S':=G.S) ⟨rfl,rfl,rfl,b1E _,λ _ _ _=>rfl⟩ (λ _ h=>h) (λ _ _=>b2L) h.sX h.eV (λ _ _=>rfl) (λ _ _ _ _ _=>rfl) (λ _ _ _ _ _ _=>rfl)
def oK(n:Nat)(sl:Nat->AV)(d:Option Nat)(v:AV)(i:Nat):AV:=if d=some i/\i<n then v else sl i
theorem fV(a:Act)(d:Option Nat)(x:Value)(i:Nat):(a.put d x).tmps.getD i undef=if d=some i/\i<a.tmps.size then x else a.tmps.getD i undef:=by
 cases d with
 | none=>simp[Act.put]
 | some d =>
  simp only[Act.put,b0L];by_cases h:d=i
  .subst h;by_cases hl:d<a.tmps.size
   .simp[hl,b1I]
   .simp[hl,b1I,Array.setIfInBounds]
  .simp[h,b1I,b3R]
theorem kN(a:Act)(d:Option Nat)(x:Value):(a.put d x).tmps.size=a.tmps.size:=by cases d<;>simp[Act.put]
theorem oE(a:Act)(d:Option Nat)(x:Value):(a.put d x).defers=a.defers:=by cases d<;>rfl
theorem bH.put{c:Ctx}{G:Gh}{sl:Nat->AV}{n:Nat}{lk:Nat->Option aG}{a:Act}{w:World}(h:bH c G sl n lk a w){d:Option Nat}{v:AV}{x:Value}(hv:VR c G lk w v x) :
  bH c G (oK n sl d v) n lk (a.put d x) w where
 defers:=(oE _ _ _).trans h.defers
 size:=(kN _ _ _).trans h.size
 bd:=h.bd
 oB:=h.oB
 gh:=h.gh
 sX:=h.sX
 eV:=h.eV
 aE i:=by
  rw[fV,h.size,oK];split
  .exact hv
  .exact h.aE i
 aR:=h.aR
 place:=h.place
 apart:=h.apart
 aW:=h.aW
 root:=h.root
 mG:=h.mG
 ep:=h.ep
 hH:=h.hH
theorem bH.forget{c:Ctx}{G:Gh}{sl sl':Nat->AV}{n:Nat}{lk:Nat->Option aG}{a:Act}{w:World}(h:bH c G sl n lk a w)(hs:∀ i,sl' i=sl i\/sl' i = .any):bH c G sl' n lk a w where
 defers:=h.defers
 size:=h.size
 bd:=h.bd
 oB:=h.oB
 gh:=h.gh
 sX:=h.sX
 eV:=h.eV
 aE i:=by
  rcases hs i with e|e
  .rw[e];exact h.aE i
  .rw[e];trivial
 aR:=h.aR
 place:=h.place
 apart:=h.apart
 aW:=h.aW
 root:=h.root
 mG:=h.mG
 ep:=h.ep
 hH:=h.hH
theorem a0m(id:Nat)(v:AV):v.kill id=v\/v.kill id = .any:=by unfold AV.kill;split<;>simp
theorem Fh(id:Nat)(v:AV):(v.kill id).refs id=false:=by
 unfold AV.kill;split
 .rfl
 .assumption
theorem C1.kill{c:Ctx}{G:Gh}{lk:Nat->Option aG}{w:World}{v:AV}{x:Value}(h:C1 c G lk w v x)(id:Nat):C1 c G lk w (v.kill id) x:=by
 rcases a0m id v with e|e
 .rw[e];exact h
 .rw[e];trivial
theorem I2(id:Nat):∀ cs:List AV,AV.jJ id (cs.map (AV.kill id))=false
 | []=>rfl
 | v::r=>by simp only[b1J,AV.jJ,Fh];exact I2 id r
theorem OR.kill{c:Ctx}{G:Gh}{lk:Nat->Option aG}{w:World}{i:Nat}{o:aG}(h:OR c G lk w i o)(id:Nat):OR c G lk w i (o.kill id):=by
 cases o with
 | box cs =>
  obtain⟨b,l,t,h1,h2,h3⟩:=h;exact⟨b,l,t,h1,h2,bf.fX _ (h3.imp λ u y _ hy=>hy.kill id)⟩
 | row e τ xs=>exact h
 | aD τ xs=>exact h
 | map m=>exact h
theorem M1(id:Nat)(o:Option aG):gw o (o.map (aG.kill id)):=by
 refine⟨λ h=>?_,λ e τ xs h=>⟨e,xs,by rw[h];rfl,b1E _⟩,λ h=>?_,λ h=>?_⟩
 .match o,h with
  | some (.box cs),_=>rfl
 .match o,h with
  | some (.aD τ xs),_=>rfl
 .match o,h with
  | some (.map m),_=>rfl
theorem oh{id:Nat}{o:Option aG}{τ:Ty}{xs:List τ.den}(h:o.map (aG.kill id)=some (.aD τ xs)):o=some (.aD τ xs):=by
 match o,h with
 | some (.aD bw dw),h=>exact h
 | some (.box _),h=>cases h
 | some (.row ..),h=>cases h
theorem Lw.sub{c:Ctx}{G:Gh}{lk lk':Nat->Option aG}{w:World}(h:Lw c G lk w)(ht:∀ id τ xs,lk' id=some (.aD τ xs)->lk id=some (.aD τ xs))(ho:∀ i o,lk' i=some o->∃ o',lk i=some o'):Lw c G lk' w where
 tr id τ xs k:=h.tr id τ xs (ht id τ xs k)
 nd id τ xs k:=h.nd id τ xs (ht id τ xs k)
 pl id τ xs b k hb:=by
  obtain⟨h1,h2,h3,h4⟩:=h.pl id τ xs b (ht id τ xs k) hb;exact⟨h1,h2,h3,λ i o hi=>(ho i o hi).elim λ o' dj=>h4 i o' dj⟩
 ap id er τ bw xs dw b k k':=h.ap id er τ bw xs dw b (ht id τ xs k) (ht er bw dw k')
theorem bH.cF{c:Ctx}{G:Gh}{sl:Nat->AV}{n:Nat}{lk:Nat->Option aG}{a:Act}{w:World}(h:bH c G sl n lk a w)(id:Nat) :
  bH c G (λ i=>(sl i).kill id) n (λ i=>(lk i).map (aG.kill id)) a w:=by
 have h1:bH c G (λ i=>(sl i).kill id) n lk a w:=h.forget λ i=>a0m id (sl i);exact {
  defers:=h1.defers,size:=h1.size,bd:=h1.bd,oB:=h1.oB,gh:=h1.gh,sX:=h1.sX,eV:=h1.eV
  aE:=λ i=>(h1.aE i).mono (λ j _=>⟨M1 id _,rfl⟩) (λ _ h=>h) (λ _ _=>rfl)
  aR:=λ i o ho=>by
   rw[b1M] at ho;obtain⟨o',dj,rfl⟩:=ho;exact ((h1.aR i o' dj).kill id).mono rfl (λ _ _=>rfl) (λ j _=>⟨M1 id _,rfl⟩) (λ _ h=>h) (λ _ _=>rfl)
  place:=λ i o b ho hb=>by
   rw[b1M] at ho;obtain⟨o',dj,rfl⟩:=ho;exact h1.place i o' b dj hb
  apart:=λ i j o o' b ho dj hb cO=>by
   rw[b1M] at ho dj;obtain⟨p,hp,rfl⟩:=ho;obtain⟨q,hq,rfl⟩:=dj;exact h1.apart i j p q b hp hq hb cO
  aW:=h1.aW.sub (λ i τ xs k=>oh k) (λ i o k=>by
   rw[b1M] at k;obtain⟨p,hp,_⟩:=k;exact⟨p,hp⟩)
  root:=λ i v hr ht=>h1.root i v hr (by
   match hl:lk i,ht with
   | some (.aD ..),_=>rfl
   | some (.box _),ht=>simp[hl,aG.kill,cN] at ht
   | some (.row ..),ht=>simp[hl,aG.kill,cN] at ht
   | none,ht=>simp[hl,cN] at ht)
  mG:=h1.mG
  ep:=λ i v hr ht=>h1.ep i v hr (by
   match hl:lk i,ht with
   | some (.box _),_=>rfl
   | some (.aD ..),ht=>simp[hl,aG.kill,jG] at ht
   | some (.row ..),ht=>simp[hl,aG.kill,jG] at ht
   | none,ht=>simp[hl,jG] at ht)
  hH:=h1.hH }
theorem bH.a6o{c:Ctx}{G:Gh}{sl:Nat->AV}{n:Nat}{lk:Nat->Option aG}{a:Act}{w:World}(h:bH c G sl n lk a w)(id:Nat)
  (hs:∀ i,(sl i).refs id=false) (ho:∀ i o,lk i=some o->i≠id->o.refs id=false):bH c G sl n (λ i=>if i=id then none else lk i) a w:=by
 have gV:∀ j,j≠id->gw (lk j) ((λ i=>if i=id then none else lk i) j):=λ j hj=>by simp only[b0Y hj];exact gw.refl _
 exact {
  defers:=h.defers,size:=h.size,bd:=h.bd,oB:=h.oB,gh:=h.gh,sX:=h.sX,eV:=h.eV
  aE:=λ i=>(h.aE i).mono (λ j hj=>⟨gV j (λ e=>by subst e;rw[hs i] at hj;cases hj),rfl⟩) (λ _ h=>h) (λ _ _=>rfl)
  aR:=λ i o cU=>by
   by_cases hi:i=id
   .simp[hi] at cU
   .simp only[b0Y hi] at cU;exact (h.aR i o cU).mono rfl (λ _ _=>rfl) (λ j hj=>⟨gV j (λ e=>by subst e;rw[ho i o cU hi] at hj;cases hj),rfl⟩) (λ _ h=>h) (λ _ _=>rfl)
  place:=λ i o b cU hb=>by
   by_cases hi:i=id
   .simp[hi] at cU
   .simp only[b0Y hi] at cU;exact h.place i o b cU hb
  apart:=λ i j o o' b cU Mv hb cO=>by
   by_cases hi:i=id
   .simp[hi] at cU
   .by_cases hj:j=id
    .simp[hj] at Mv
    .simp only[b0Y hi] at cU;simp only[b0Y hj] at Mv;exact h.apart i j o o' b cU Mv hb cO
  aW:=h.aW.sub (λ i τ xs k=>by
   by_cases hi:i=id
   .simp[hi] at k
   .simpa only[if_neg hi] using k) (λ i o k=>by
   by_cases hi:i=id
   .simp[hi] at k
   .exact⟨o,by simpa only[if_neg hi] using k⟩)
  root:=λ i v hr ht=>h.root i v hr (by
   by_cases hi:i=id
   .simp[hi,cN] at ht
   .simpa only[if_neg hi] using ht)
  mG:=h.mG
  ep:=λ i v hr ht=>h.ep i v hr (by
   by_cases hi:i=id
   .simp[hi,jG] at ht
   .simpa only[if_neg hi] using ht)
  hH:=h.hH }
theorem bH.newObj{c:Ctx}{G:Gh}{sl:Nat->AV}{n:Nat}{lk:Nat->Option aG}{a:Act}{w:World}(h:bH c G sl n lk a w)(id:Nat)(o:aG)(x:Value)
  (bm:lk id=none) (hs:∀ i,(sl i).refs id=false) (ho:∀ i o,lk i=some o->o.refs id=false) (hor:o.refs id=false)
  (vx:OR c ⟨G.S,λ i=>if i=id then x else G.η i,G.φ⟩ (λ i=>if i=id then some o else lk i) w id o)
  (SY:cN (some o)=false) (bX:jG (some o)=false\/id<400000) (nG:∀ b,gi x=some b->(c.w0.heap.size<=b\/c.X b)/\¬ G.S b/\b<w.heap.size/\(∀ i o',lk i=some o'->gi (G.η i)≠some b)/\∀ j τ xs,lk j=some (.aD τ xs)->b∉G.φ j) :
  bH c ⟨G.S,λ i=>if i=id then x else G.η i,G.φ⟩ sl n (λ i=>if i=id then some o else lk i) a w:=by
 have gV:∀ j,j≠id->gw (lk j) ((λ i=>if i=id then some o else lk i) j)/\(if j=id then x else G.η j)=G.η j:=λ j hj=>by simp only[b0Y hj];exact⟨gw.refl _,af⟩
 exact {
  defers:=h.defers,size:=h.size,bd:=h.bd,oB:=h.oB,gh:=h.gh,sX:=h.sX,eV:=h.eV
  aE:=λ i=>(h.aE i).mono (λ j hj=>gV j (λ e=>by subst e;rw[hs i] at hj;cases hj)) (λ _ h=>h) (λ _ _=>rfl)
  aR:=λ i o' cU=>by
   by_cases hi:i=id
   .subst hi;simp only[b2D,b0L] at cU;subst cU;exact vx
   .simp only[b0Y hi] at cU;exact (h.aR i o' cU).mono (by simp only[b0Y hi]) (λ _ _=>rfl) (λ j hj=>gV j (λ e=>by subst e;rw[ho i o' cU] at hj;cases hj)) (λ _ h=>h) (λ _ _=>rfl)
  place:=λ i o' b cU hb=>by
   by_cases hi:i=id
   .simp only[b1q hi] at hb;obtain⟨h1,h2,h3,_⟩:=nG b hb;exact⟨h1,h2,h3⟩
   .simp only[b0Y hi] at cU hb;exact h.place i o' b cU hb
  apart:=λ i j o1 o2 b cU Mv hb cO=>by
   by_cases hi:i=id
   .by_cases hj:j=id
    .rw[hi,hj]
    .simp only[b0Y hj] at Mv cO;simp only[b1q hi] at hb;exact absurd cO ((nG b hb).2.2.2.1 j o2 Mv)
   .by_cases hj:j=id
    .simp only[b0Y hi] at cU hb;simp only[b1q hj] at cO;exact absurd hb ((nG b cO).2.2.2.1 i o1 cU)
    .simp only[b0Y hi] at cU hb;simp only[b0Y hj] at Mv cO;exact h.apart i j o1 o2 b cU Mv hb cO
  aW:=by
   have hold:∀ j τ xs,(if j=id then some o else lk j)=some (.aD τ xs)->j≠id/\lk j=some (.aD τ xs):=λ j τ xs k=>by
    by_cases hj:j=id
    .rw[b1q hj] at k;cases k;cases SY
    .rw[b0Y hj] at k;exact⟨hj,k⟩
   exact {
    tr:=λ j τ xs k=>by
     obtain⟨h1,h2⟩:=hold j τ xs k;simp only[b0Y h1];exact h.aW.tr j τ xs h2
    nd:=λ j τ xs k=>h.aW.nd j τ xs (hold j τ xs k).2
    pl:=λ j τ xs b k hb=>by
     obtain⟨h1,h2,h3,h4⟩:=h.aW.pl j τ xs b (hold j τ xs k).2 hb;refine⟨h1,h2,h3,λ i p yP=>?_⟩;by_cases hi:i=id
     .simp only[b1q hi];exact λ e=>(nG b e).2.2.2.2 j τ xs (hold j τ xs k).2 hb
     .simp only[b0Y hi] at yP ⊢;exact h4 i p yP
    ap:=λ j j' τ bw xs dw b k k'=>h.aW.ap j j' τ bw xs dw b (hold j τ xs k).2 (hold j' bw dw k').2 }
  root:=λ i v hr ht=>by
   by_cases hi:i=id
   .simp only[b1q hi] at ht;rw[SY] at ht;cases ht
   .simp only[b0Y hi] at ht ⊢;exact h.root i v hr ht
  mG:=h.mG
  ep:=λ i v hr ht=>by
   by_cases hi:i=id
   .subst hi;rcases bX with bX|bX
    .simp only[b2D] at ht;rw[bX] at ht;cases ht
    .have:=h.hH i v hr;omega
   .simp only[b0Y hi] at ht ⊢;exact h.ep i v hr ht
  hH:=h.hH }
theorem bH.Zc{c:Ctx}{G:Gh}{sl:Nat->AV}{n:Nat}{lk:Nat->Option aG}{a:Act}{w w':World}(h:bH c G sl n lk a w)(id:Nat)(o o':aG)(b:Nat)(bm:lk id=some o)(hb:gi (G.η id)=some b)
  (gV:gw (some o) (some o')) (SY:cN (some o')=false) (hw:∀ k,k≠b->w'.heap[k]?=w.heap[k]?) (hos:w'.os=w.os) (a1C:w'.tape=w.tape) (XO:w'.output=w.output) (QD:w'.heap.size=w.heap.size)
  (vx:OR c G (λ i=>if i=id then some o' else lk i) w' id o'):bH c G sl n (λ i=>if i=id then some o' else lk i) a w':=by
 obtain⟨hp1,hp2,hp3⟩:=h.place id o b bm hb;have cI:∀ k,St c G.S k->w'.heap[k]?=w.heap[k]?:=λ k hk=>hw k λ e=>by
  subst e;rcases hk with hk|hk
  .exact hp2 hk
  .exact hp1.elim (λ q=>by omega) hk.2.1
 have hs:∀ j,gw (lk j) ((λ i=>if i=id then some o' else lk i) j):=λ j=>by
  by_cases hj:j=id
  .subst hj;simp only[b2D];rw[bm];exact gV
  .simp only[b0Y hj];exact gw.refl _
 exact {
  defers:=h.defers,size:=h.size
  bd:=h.bd.trans (Y:=λ k=>c.w0.heap.size<=k\/c.X k) ⟨hos,a1C,XO,Nat.le_of_eq QD.symm,λ k _ hx=>hw k λ e=>by subst e;exact hx hp1⟩ λ i hi hy=>hy.elim (λ h=>by omega) (λ h=>h)
  oB:=h.oB,gh:=h.gh,sX:=h.sX
  eV:=λ k hk=>by rw[QD];exact h.eV k hk
  aE:=λ i=>(h.aE i).mono (λ j _=>⟨hs j,rfl⟩) (λ _ h=>h) cI
  aR:=λ i p hp=>by
   by_cases hi:i=id
   .subst hi;simp only[b2D,b0L] at hp;subst hp;exact vx
   .simp only[b0Y hi] at hp;exact (h.aR i p hp).mono rfl (λ k hk=>hw k λ e=>by subst e;exact hi (h.apart i id p o _ hp bm hk hb)) (λ j _=>⟨hs j,rfl⟩) (λ _ h=>h) cI
  place:=λ i p k hp hk=>by
   rw[QD];by_cases hi:i=id
   .subst hi;exact h.place i o k bm hk
   .simp only[b0Y hi] at hp;exact h.place i p k hp hk
  apart:=λ i j p q k hp hq hk qp=>by
   by_cases hi:i=id
   .by_cases hj:j=id
    .rw[hi,hj]
    .simp only[b0Y hj] at hq;rw[hi] at hk ⊢;exact h.apart id j o q k bm hq hk qp
   .simp only[b0Y hi] at hp;by_cases hj:j=id
    .rw[hj] at qp ⊢;exact h.apart i id p o k hp bm hk qp
    .simp only[b0Y hj] at hq;exact h.apart i j p q k hp hq hk qp
  aW:=by
   have hold:∀ j τ xs,(if j=id then some o' else lk j)=some (.aD τ xs)->lk j=some (.aD τ xs):=λ j τ xs k=>by
    by_cases hj:j=id
    .rw[b1q hj] at k;cases k;cases SY
    .rwa [b0Y hj] at k
   exact {
    tr:=λ j τ xs k=>(h.aW.tr j τ xs (hold j τ xs k)).bd λ k' qp=>hw k' λ e=>by
     subst e;exact (h.aW.pl j τ xs _ (hold j τ xs k) qp).2.2.2 id o bm hb
    nd:=λ j τ xs k=>h.aW.nd j τ xs (hold j τ xs k)
    pl:=λ j τ xs b' k cO=>by
     obtain⟨h1,h2,h3,h4⟩:=h.aW.pl j τ xs b' (hold j τ xs k) cO;refine⟨h1,h2,by rw[QD];exact h3,λ i p yP=>?_⟩;by_cases hi:i=id
     .rw[hi];exact h4 id o bm
     .rw[b0Y hi] at yP;exact h4 i p yP
    ap:=λ j j' τ bw xs dw b' k k'=>h.aW.ap j j' τ bw xs dw b' (hold j τ xs k) (hold j' bw dw k') }
  root:=λ i v hr ht=>by
   by_cases hi:i=id
   .simp only[b1q hi] at ht;rw[SY] at ht;cases ht
   .simp only[b0Y hi] at ht;exact h.root i v hr ht
  mG:=h.mG
  ep:=λ i v hr ht=>by
   by_cases hi:i=id
   .subst hi;simp only[b2D] at ht;refine h.ep i v hr ?_;rw[bm];cases o with
    | box cs=>rfl
    | row e τ xs=>obtain⟨e',dw,q,_⟩:=gV.2.1 e τ xs rfl;rw[q] at ht;cases ht
    | aD τ xs=>have h3:cN (some o')=true:=gV.2.2.1 rfl;rw[SY] at h3;cases h3
    | map m =>
     obtain⟨b1,_,_,k1,_⟩:=h.aR i _ bm;match o',ht with
     | .box cs,_ =>
      obtain⟨b2,_,_,k2,_⟩:=vx;rw[k1] at k2;cases k2
   .simp only[b0Y hi] at ht;exact h.ep i v hr ht
  hH:=h.hH }
def AU:Ty->Value->Bool
 | .int k, .int k' n=>decide (k=k')&&decide (n=0)
 | .bool, .bool b => !b
 | .str, .string s=>s.data.toList.isEmpty
 | .slice _, .slice none 0 0=>true
 | .ptr, .pointer none=>true
 | _,_=>false
def P8:List Ty->List Value->Bool
 | [],[]=>true
 | t::ts,v::vs=>AU t v&&P8 ts vs
 | _,_=>false
def Cr(τ:Ty)(v:Value):Bool :=
 match τ,v with
 | .st s, .agg cs=>P8 s.zD cs.toList
 | .st _,_=>false
 | τ,v=>AU τ v
def TO(P:Program)(T:TypeId)(τ:Ty):Bool :=
 match P.info? T with
 | some i=>Nat.beq i.size τ.size&&(match i.zero with
  | some z=>Cr τ z
  | none=>false)
 | none=>false
def Jq(E:Env)(s:aY):Nat->List Field->List Ty->Bool
 | _,[],[]=>true
 | i,f::fs,t::ts=>(match ah E.ty f.type with
   | some (τ,_)=>decide (τ=t)
   | none=>false)&&Nat.beq f.offset (s.iK i)&&Jq E s (i+1) fs ts
 | _,_,_=>false
def wK(P:Program)(E:Env)(T:TypeId)(τ:Ty)(b e:Nat):Bool :=
 TO P T τ&&match τ with
  | .int k=>match P.underlying T with
   | some (.int k')=>decide (k=k')
   | _=>false
  | .bool=>match P.underlying T with
   | some .bool=>true
   | _=>false
  | .str=>match P.underlying T with
   | some .string=>true
   | _=>false
  | .slice t=>match P.underlying T with
   | some (.slice e')=>Nat.beq e e'&&(match ah E.ty e with
     | some (bw,_)=>decide (bw=t)
     | none=>false)&&(match P.info? e with
     | some i=>Nat.beq i.bytes b
     | none=>false)&&TO P e t
   | _=>false
  | .st s=>match P.underlying T with
   | some (.struct fs)=>Jq E s 0 fs.toList s.jw
   | _=>false
  | .mv _=>false
  | .ptr=>match P.underlying T with
   | some (.pointer _)=>true
   | _=>false
def Vw(P:Program)(E:Env)(T:TypeId)(κ ε:Ty):Bool:=match P.underlying T with
 | some (.map k e)=>match ah E.ty k,ah E.ty e with
  | some (κ',_),some (ε',_)=>decide (κ'=κ)&&(decide (ε'=ε)&&(κ.key&&ε.key))
  | _,_=>false
 | _=>false
structure Info(P:Program)(T:TypeId)(τ:Ty):Prop where
 ex:∃ i z,P.info? T=some i/\i.size=τ.size/\i.zero=some z/\Cr τ z=true
theorem a0l{P:Program}{T:TypeId}{τ:Ty}(h:TO P T τ=true):Info P T τ:=by
 unfold TO at h;split at h
 .rename_i i hi;simp only[b0R] at h;obtain⟨h1,h2⟩:=h;split at h2
  .rename_i z hz;exact⟨i,z,hi,b0P h1,hz,h2⟩
  .cases h2
 .cases h
def Bf(P:Program)(w:World)(S:Nat->Prop):Arg->Value->Prop
 | .dO v,x=>∃ f jP l,x = .func (.func f) #[] l.toArray/\Jk P f jP v.ps v.r v.F []/\bf (Ls w S) jP l
 | a,x=>Ls w S a x
theorem Bf.of0{P:Program}{w:World}{S:Nat->Prop}{a:Arg}{x:Value}(h:Ls w S a x):Bf P w S a x:=by
 cases a with
 | dO v=>exact h.elim
 | own v=>exact h.elim
 | box k=>exact h.elim
 | _=>exact h
def bC(P:Program)(f:FuncId)(args:List Arg)(post:List TV->Prop):Prop :=
 ∀ (w:World) (S:Nat->Prop) (dm:List Value),yI w S->bf (Bf P w S) args dm ->
  Calls P f dm.toArray w λ e w'=>∃ x S' res,e = .returned x/\post res/\bV (λ _=>False) w w'/\(∀ b,b<w.heap.size->(S' b↔S b))/\(∀ b,S' b->b<w'.heap.size)/\FR w' S' res x
def Dh(w:World)(v:TV)(x:Value)(fp:List Nat):Prop :=
 match v with
 | ⟨.st s,y⟩=>∃ cs,x = .agg cs.toArray/\Ow w (s.bc y) cs fp
 | v=>Ow w v.bc [x] fp
def Nt(w:World):List TV->List Value->List Nat->Prop
 | [],[],fp=>fp=[]
 | v::vs,x::xs,fp=>∃ f1 f2,fp=f1++f2/\Dh w v x f1/\Nt w vs xs f2
 | _,_,_=>False
def Lu(w:World):List TV->Value->List Nat->Prop
 | [v],x,fp=>Dh w v x fp
 | vs,x,fp=>∃ l,x = .tuple l.toArray/\Nt w vs l fp
def xH(P:Program)(w:World)(S:Nat->Prop):List Arg->List Value->List Nat->Prop
 | [],[],fp=>fp=[]
 | a::Z9,x::xs,fp=>∃ f1 f2,fp=f1++f2/\(match a with
  | .own v=>Dh w v x f1
  | a=>f1=[]/\Bf P w S a x)/\xH P w S Z9 xs f2
 | _,_,_=>False
def fH(P:Program)(f:FuncId)(args:List Arg)(res:List TV):Prop :=
 ∀ (w:World) (S:Nat->Prop) (dm:List Value) (fa:List Nat),yI w S->xH P w S args dm fa->(fa=[]\/∀ a∈args,a.M6=true)->fa.Nodup->(∀ b∈fa,b<w.heap.size/\¬ S b) ->
  Calls P f dm.toArray w λ e w'=>∃ x fp,e = .returned x/\bV (λ b=>b∈fa) w w'/\Lu w' res x fp/\fp.Nodup/\∀ b∈fp,b∈fa\/(w.heap.size<=b/\b<w'.heap.size)
theorem xH.VS{P:Program}{w:World}{S:Nat->Prop}:∀ {Z9:List Arg} {xs:List Value},bf (Bf P w S) Z9 xs->xH P w S Z9 xs []
 | [],[],_=>rfl
 | a::Z9,x::xs,h=>by
  refine⟨[],[],rfl,?_,xH.VS h.2⟩;cases a with
  | own v=>exact h.1.elim
  | box k=>exact h.1.elim
  | _=>exact⟨rfl,h.1⟩
 | [],_::_,h=>h.elim
 | _::_,[],h=>h.elim
def Ns(P:Program)(f:FuncId)(m:FQ):Prop :=
 ∀ (x:m.τ.den) (k:Int) (w:World) (v:Value) (fp:List Nat),(m.g x k).1.ok->U k->Gok w (λ b=>b<w.heap.size/\b∉fp)->Dh w ⟨m.τ,x⟩ v fp->fp.Nodup->(∀ b∈fp,b<w.heap.size) ->
  Calls P f #[v, .int .i64 k] w λ e w'=>e = .returned (.int .i64 (m.g x k).2.2)/\U (m.g x k).2.2/\bV (λ b=>b∈fp) w w'/\∃ yM,Dh w' ⟨m.τ,(m.g x k).2.1⟩ v yM/\yM.Nodup/\∀ b∈yM,b∈fp\/(w.heap.size<=b/\b<w'.heap.size)
def p9(w:World)(S:Nat->Prop)(B:Nat->Nat):List CK->List TV->List Value->List Nat->Prop
 | [],[],[],fp=>fp=[]
 | .d τ::ks,v::ds,x::xs,fp=>(v.τ=τ/\τ.agg=false/\Rd w S v.bc [x])/\p9 w S B ks ds xs fp
 | .o τ::ks,v::ds,x::xs,fp=>∃ f1 f2,fp=f1++f2/\(v.τ=τ/\τ.agg=false/\Ow w v.bc [x] f1)/\p9 w S B ks ds xs f2
 | .p j::ks,ds,x::xs,fp=>x = .pointer (some ⟨B j,0,none⟩)/\p9 w S B ks ds xs fp
 | _,_,_,_=>False
def mR(w:World)(S:Nat->Prop)(B:Nat->Nat):Nat->List (List CK)->List (List TV)->List Nat->Prop
 | _,[],[],fp=>fp=[]
 | k,ks::sh,ds::cr,fp=>∃ l t f1 f2,fp=f1++f2/\w.heap[B k]?=some (.cells l.toArray t (0,0))/\p9 w S B ks ds l f1/\mR w S B (k+1) sh cr f2
 | _,_,_,_=>False
def Zz(w:World)(S X:Nat->Prop)(B:Nat->Nat):Arg->Value->Prop
 | .box k,x=>x = .pointer (some ⟨B k,0,none⟩)
 | .val v,x=>gM w S v x
 | .ref v,x=>∃ b o cs,x = .pointer (some ⟨b,o,none⟩)/\b<w.heap.size/\¬ X b/\cG w b o cs/\Rd w S v.bc cs
 | .fn f,x=>x = .func (.func f) #[] #[]
 | .dO _,_=>False
 | .own _,_=>False
def BX(n:Nat)(B:Nat->Nat)(fa:List Nat)(b:Nat):Prop:=b∈fa\/∃ k,k<n/\b=B k
def vo(P:Program)(f:FuncId)(sh:List (List CK))(args:List Arg)(cr:List (List TV))(res:List TV)(iB:List (List TV)):Prop :=
 ∀ (w:World) (S:Nat->Prop) (B:Nat->Nat) (dm:List Value) (fa:List Nat),yI w S->mR w S B 0 sh cr fa->fa.Nodup->(∀ b∈fa,b<w.heap.size/\¬ S b/\∀ k,k<sh.length->B k≠b) ->
  (∀ k,k<sh.length->B k<w.heap.size/\¬ S (B k))->(∀ j k,j<sh.length->k<sh.length->B j=B k->j=k)->bf (Zz w S (BX sh.length B fa) B) args dm ->
  Calls P f dm.toArray w λ e w'=>∃ x S' fp Oe,e = .returned x/\bV (BX sh.length B fa) w w'/\(∀ b,S b->S' b)/\(∀ b,S' b->b<w'.heap.size)/\(∀ b,b<w.heap.size->¬ BX sh.length B fa b->(S' b↔S b)) /\
   Lu w' res x fp/\mR w' S' B 0 sh iB Oe/\(fp++Oe).Nodup/\(∀ b∈fp++Oe,(b∈fa\/(w.heap.size<=b/\b<w'.heap.size))/\¬ S' b/\∀ k,k<sh.length->B k≠b)/\∀ k,k<sh.length->¬ S' (B k)
theorem bC.ok0{P:Program}{f:FuncId}{args:List Arg}{post:List TV->Prop}(h:bC P f args post):Nr P f args post :=
 λ w S dm hS ha=>h w S dm hS (ha.imp λ _ _ _ hx => .of0 hx)
def a4j(w:World)(S T:Nat->Prop)(x:Value):ZB->Prop
 | .box cells=>∃ b l t,x = .pointer (some ⟨b,0,none⟩)/\w.heap[b]?=some (.cells l.toArray t (0,0))/\bf (λ v x=>v.τ.agg=false/\Rd w S v.bc [x]) cells l
 | .row e τ xs=>∃ l,w.ownsRow 0 e τ.size x xs.length l/\gL w S (xs.map τ.bc) l/\xs.length<=140737488355328
 | .res l=>∃ ys,x = .tuple ys.toArray/\bf (λ r x=>match r with
  | (true,v)=>∃ b o cs,x = .pointer (some ⟨b,o,none⟩)/\(S b\/T b)/\cG w b o cs/\Rd w S v.bc cs
  | (false,v)=>gM w S v x) l ys
def a0Q(P:Program)(f:FuncId)(args:List Arg)(o:ZB):Prop :=
 ∀ (w:World) (S T:Nat->Prop) (dm:List Value),yI w S->(∀ x∈dm,∀ a:Addr,x = .pointer (some a)->T a.block)->bf (Bf P w S) args dm ->
  Calls P f dm.toArray w λ e w'=>∃ x S',e = .returned x/\bV (λ _=>False) w w'/\(∀ k,k<w.heap.size->(S' k↔S k))/\(∀ k,S' k->k<w'.heap.size) /\
   (∀ b,gi x=some b->w.heap.size<=b/\b<w'.heap.size/\¬ S' b)/\a4j w' S' T x o
structure bU(P:Program)(E:Env):Prop where
 ty:∀ T τ b e,ah E.ty T=some (τ,b,e)->wK P E T τ b e=true
 mty:∀ T κ ε,ah E.mty T=some (κ,ε)->Vw P E T κ ε=true
 pty:∀ T τ,ah E.pty T=some τ->True
 Qq:∀ f args pre res,E.Qq f args=some (pre,res)->pre.ok->oC P f/\bC P f args (·=res)
 O4:∀ f args pre res,E.O4 f args=some (pre,res)->pre.ok->oC P f/\fH P f args res
 mark:∀ f m,E.mark f=some m->oC P f/\Ns P f m
 VG:∀ f args pre o,E.VG f args=some (pre,o)->pre.ok->oC P f/\a0Q P f args o
 Ya:∀ f sk args cr pre res iB,E.sk f=some sk->E.Ya f args cr=some (pre,res,iB)->pre.ok->oC P f/\vo P f sk.sh args cr res iB
section
variable {P:Program} {E:Env} {T:TypeId} {τ:Ty} {b e:Nat}
theorem bU.info(hE:bU P E)(h:ah E.ty T=some (τ,b,e)):Info P T τ:=by
 have:=hE.ty _ _ _ _ h;unfold wK at this;simp only[Bool.and_eq_true] at this;exact a0l this.1
theorem bU.int(hE:bU P E){k:IntKind}(h:ah E.ty T=some (.int k,b,e)):P.underlying T=some (.int k):=by
 have:=hE.ty _ _ _ _ h;unfold wK at this;simp only[Bool.and_eq_true] at this;have h2:=this.2;split at h2
 .rename_i k' hk;rw[hk,b1z h2]
 .cases h2
theorem bU.bool(hE:bU P E)(h:ah E.ty T=some (.bool,b,e)):P.underlying T=some .bool:=by
 have:=hE.ty _ _ _ _ h;unfold wK at this;simp only[Bool.and_eq_true] at this;have h2:=this.2;split at h2
 .assumption
 .cases h2
theorem bU.str(hE:bU P E)(h:ah E.ty T=some (.str,b,e)):P.underlying T=some .string:=by
 have:=hE.ty _ _ _ _ h;unfold wK at this;simp only[Bool.and_eq_true] at this;have h2:=this.2;split at h2
 .assumption
 .cases h2
theorem bU.slice(hE:bU P E){t:Ty}(h:ah E.ty T=some (.slice t,b,e)) :
  P.underlying T=some (.slice e)/\(∃ b' e',ah E.ty e=some (t,b',e'))/\(∃ i z,P.info? e=some i/\i.size=t.size/\i.bytes=b/\i.zero=some z/\Cr t z=true):=by
 have:=hE.ty _ _ _ _ h;unfold wK at this;simp only[Bool.and_eq_true] at this;have h2:=this.2;split at h2
 .rename_i e' DT;simp only[b0R] at h2;obtain⟨⟨⟨h3,h4⟩,h5⟩,h6⟩:=h2;have h3:=b0P h3;subst h3;split at h4
  .rename_i bw r hl;have h4:=b1z h4;subst h4;obtain⟨i,z,hi,hs,hz,hzo⟩:=(a0l h6).ex;rw[hi] at h5;exact⟨DT,⟨_,_,hl⟩,i,z,hi,hs,b0P h5,hz,hzo⟩
  .cases h4
 .cases h2
theorem Og{s:aY}:∀ (n:Nat) (fs:List Field) (ts:List Ty),Jq E s n fs ts=true->fs.length=ts.length /\
  ∀ i f,fs[i]?=some f->∃ t b e,ts[i]?=some t/\ah E.ty f.type=some (t,b,e)/\f.offset=s.iK (n+i)
 | _,[],[],_=>⟨rfl,by simp⟩
 | n,f::fs,t::ts,h=>by
  simp only[Jq,b0R] at h;obtain⟨⟨h1,h2⟩,h3⟩:=h;obtain⟨h4,h5⟩:=Og (n+1) fs ts h3;refine⟨by simp[h4],λ i g hi=>?_⟩;cases i with
  | zero =>
   simp at hi;subst hi;split at h1
   .rename_i τ r hl;have h1:=b1z h1;subst h1;exact⟨_,_,_,rfl,hl,b0P h2⟩
   .cases h1
  | succ i =>
   obtain⟨t',b',e',k1,k2,k3⟩:=h5 i g (by simpa using hi);exact⟨t',b',e',by simpa using k1,k2,by rw[k3];congr 1;omega⟩
 | _,[],_::_,h=>by cases h
 | _,_::_,[],h=>by cases h
theorem bU.st(hE:bU P E){s:aY}(h:ah E.ty T=some (.st s,b,e)) :
  ∃ fs,P.underlying T=some (.struct fs)/\fs.size=s.jw.length/\∀ i f,fs[i]?=some f->∃ t b e,s.jw[i]?=some t/\ah E.ty f.type=some (t,b,e)/\f.offset=s.iK i:=by
 have:=hE.ty _ _ _ _ h;unfold wK at this;simp only[Bool.and_eq_true] at this;have h2:=this.2;split at h2
 .rename_i fs hfs;obtain⟨h3,h4⟩:=Og 0 _ _ h2;refine⟨fs,hfs,by simpa using h3,λ i f hi=>?_⟩;obtain⟨t,b',e',k1,k2,k3⟩:=h4 i f (by simpa using hi);exact⟨t,b',e',k1,k2,by simpa using k3⟩
 .cases h2
theorem bU.a5F(hE:bU P E){t:Ty}(h:ah E.ty T=some (.mv t,b,e)):False:=by
 have:=hE.ty _ _ _ _ h;unfold wK at this;simp at this
theorem bU.ptr(hE:bU P E)(h:ah E.ty T=some (.ptr,b,e)):∃ t,P.underlying T=some (.pointer t):=by
 have:=hE.ty _ _ _ _ h;unfold wK at this;simp only[Bool.and_eq_true] at this;have h2:=this.2;split at h2
 .rename_i t ht;exact⟨t,ht⟩
 .cases h2
theorem bU.isAgg(hE:bU P E)(h:ah E.ty T=some (τ,b,e))(w:World):(isAgg T).run P w = .ok τ.agg w:=by
 cases τ with
 | int k=>simp[Go.isAgg,b1Q (hE.int h)];rfl
 | bool=>simp[Go.isAgg,b1Q (hE.bool h)];rfl
 | str=>simp[Go.isAgg,b1Q (hE.str h)];rfl
 | slice t=>simp[Go.isAgg,b1Q (hE.slice h).1];rfl
 | st s=>obtain⟨fs,h1,_⟩:=hE.st h;simp[Go.isAgg,b1Q h1];rfl
 | mv t=>exact (hE.a5F h).elim
 | ptr=>obtain⟨t,ht⟩:=hE.ptr h;simp[Go.isAgg,b1Q ht];rfl
theorem bU.sizeOf(hE:bU P E)(h:ah E.ty T=some (τ,b,e))(w:World):(sizeOf T).run P w = .ok τ.size w:=by
 obtain⟨i,z,h1,h2,_⟩:=(hE.info h).ex;simp[Go.sizeOf,typeInfo,h1,h2]
theorem Ty.ot{τ:Ty}(h:τ.agg=false):τ.size=1:=by cases τ<;>first|rfl|cases h
theorem aY.size_pos(s:aY):0<s.size:=by cases s<;>decide
theorem Ty.size_pos(τ:Ty):0<τ.size:=by cases τ<;>first|exact Nat.one_pos|exact aY.size_pos _
def Km(τ:Ty)(cs:List Value):Value :=
 match τ with
 | .st _ => .agg cs.toArray
 | _=>cs.getD 0 undef
theorem qT(hE:bU P E)(h:ah E.ty T=some (τ,b,e)){w:World}{bk o:Nat}{cs:List Value}(hc:cG w bk o cs)(hl:cs.length=τ.size) :
  (Instr.loadAt T (.pointer (some ⟨bk,o,none⟩))).run P w = .ok (Km τ cs) w:=by
 have SU:∀ j v,cs[j]?=some v->w.cell? ((⟨bk,o,none⟩:Addr).add j)=some v:=λ j v hj=>by rw[b3j];exact hc j v hj
 simp only[Instr.loadAt,Instr.sureAddr,loadVar,b1u,b1w,b1j,hE.isAgg h];cases nH:τ.agg with
 | true =>
  simp only[b2D,b1u,hE.sizeOf h,b1j];rw[<-hl,run_loadCells_list w _ cs SU];cases τ<;>first|rfl|cases nH
 | false =>
  have h1:cs.length=1:=hl.trans (Ty.ot nH);match cs,h1 with
  | [v],_ =>
   have:=hc 0 v rfl;simp only[b2I] at this;simp[run_load,this];cases τ<;>first|rfl|cases nH
end
section
variable {c:Ctx} {G:Gh} {lk:Nat->Option aG} {w:World}
theorem C1.jS{v:AV}{x:Value}(h:C1 c G lk w v x):VR c G lk w v x:=by
 cases v with
 | aT v =>
  obtain⟨τ,y⟩:=v;cases τ with
  | st s=>cases h.1
  | _=>exact h.2
 | agg cs=>exact h.elim
 | mI vs=>exact h.elim
 | dO f cs=>exact h.elim
 | _=>exact h
theorem VR.Yf{v:AV}{x:Value}(h:VR c G lk w v x)(hc:v.cell=true):C1 c G lk w v x:=by
 cases v with
 | aT v =>
  obtain⟨τ,y⟩:=v;cases τ with
  | st s=>cases hc
  | _=>exact⟨rfl,h⟩
 | agg cs=>cases hc
 | mI vs=>cases hc
 | dO f cs=>cases hc
 | any=>cases hc
 | _=>exact h
theorem oe{v:TV}(h:v.τ.agg=false):v.bc.leaf=true:=by
 obtain⟨τ,y⟩:=v;cases τ<;>first|rfl|exact QN _ _ _|cases h
theorem C1.leaf{v:AV}{x:Value}(h:C1 c G lk w v x)(hc:v.cell=true):x.oneCell'=true/\x.cells = #[x]:=by
 cases v with
 | any=>cases hc
 | fO=>cases hc
 | agg cs=>cases hc
 | mI cs=>cases hc
 | dO f cs=>cases hc
 | me v=>cases hc
 | aT v =>
  obtain⟨y,h1,h2⟩:=Rd.xR (oe h.1) h.2;simp only[b0T,b1b] at h1;subst h1;exact⟨B5 h2,OY h2⟩
 | nil=>rw[show x=_ from h];exact⟨rfl,rfl⟩
 | dH v=>obtain⟨b,o,cs,rfl,_⟩:=h;exact⟨rfl,rfl⟩
 | ptr i o=>obtain⟨b,_,rfl,_⟩:=h;exact⟨rfl,rfl⟩
 | row i=>obtain⟨_,_,a,n,m,rfl⟩:=h;exact⟨rfl,rfl⟩
 | aD i=>obtain⟨_,_,_,a,n,m,rfl⟩:=h;exact⟨rfl,rfl⟩
 | sub i k o z=>cases hc
 | gQ i k o z=>cases hc
 | gp i k o=>obtain⟨b,n,cap,e,τ,xs,_,_,_,rfl⟩:=h;exact⟨rfl,rfl⟩
 | fn f=>rw[show x=_ from h];exact⟨rfl,rfl⟩
 | mp i=>obtain⟨_,_,b,rfl⟩:=h;exact⟨rfl,rfl⟩
theorem gM.cells{S:Nat->Prop}{v:TV}{x:Value}(h:gM w S v x):Rd w S v.bc x.cells.toList:=by
 obtain⟨τ,y⟩:=v;cases τ with
 | st s =>
  obtain⟨cs,rfl,h⟩:=h;show Rd w S (s.bc y) _;simpa [Value.cells] using h
 | _ =>
  obtain⟨z,h1,h2⟩:=Rd.xR (oe rfl) h;simp only[b0T,b1b] at h1;subst h1;rw[OY h2];exact h
theorem gM.mk_{S:Nat->Prop}{v:TV}{cs:List Value}(h:Rd w S v.bc cs):gM w S v (Km v.τ cs):=by
 obtain⟨τ,y⟩:=v;cases τ with
 | st s=>exact⟨cs,rfl,h⟩
 | _ =>
  obtain⟨z,rfl,h2⟩:=Rd.xR (oe rfl) h;exact h
def SX(G:Gh)(lk:Nat->Option aG)(b:Nat):Prop:=G.S b\/(∃ id e τ xs,lk id=some (.row e τ xs)/\gi (G.η id)=some b)\/∃ id τ xs,lk id=some (.aD τ xs)/\b∈G.φ id
theorem bH.a3d{c:Ctx}{G:Gh}{sl:Nat->AV}{n:Nat}{lk:Nat->Option aG}{a:Act}{w:World}(h:bH c G sl n lk a w):yI w (SX G lk) :=
 ⟨λ b q=>by
  rcases q with hb|⟨id,e,τ,ys,bm,hb⟩|⟨id,τ,ys,bm,hb⟩
  .exact h.eV b hb
  .exact (h.place id _ b bm hb).2.2
  .exact (h.aW.pl id _ _ b bm hb).2.2.1,h.sOk.2.mono (λ _ q => .inl q) λ _ _=>rfl⟩
theorem SX.of{b:Nat}(h:G.S b):SX G lk b := .inl h
theorem a2Y{id:Nat}{e:TypeId}{τ:Ty}{xs:List τ.den}(ho:OR c G lk w id (.row e τ xs))(bm:lk id=some (.row e τ xs)):Rd w (SX G lk) (Ty.bc (.slice τ) xs) [G.η id]:=by
 obtain⟨l,h1,h2,h3⟩:=ho;rcases h1.2 with ⟨hv,hn⟩|⟨g,cap,cur,hv,_,hh,SW,hcm,oR,htk⟩
 .have hx:xs=[]:=b1X hn;subst hx;exact⟨none,0,by simp[hv],by simp,by simp[maxLen],by simp, .inl rfl⟩
 .refine⟨some ⟨g,0,none⟩,cap,by simp[hv],by simpa using SW,hcm,by simpa using h3,?_⟩;refine .inr ⟨g,0,rfl, .inr (.inl ⟨id,e,τ,xs,bm,by rw[hv];rfl⟩),?_⟩;refine gL.row _ g 0 (h2.bd (λ _ h=>SX.of h) (λ _ _=>rfl)) λ j v hj=>?_;have:=h1.cells (g:=g) (by rw[hv];rfl) j v hj;rw[Addr.add_lit] at this;exact this
theorem l6.rd{S:Nat->Prop}{η:Value}{τ:Ty}{xs:List τ.den}{fp:List Nat}(h:l6 w η τ xs fp){x:Value}{l:List Value}(hx:η = .tuple (x::l).toArray)(hS:∀ b∈fp,S b):Rd w S (Ty.bc (.slice τ) xs) [x]:=by
 obtain⟨v,l',a,cap,h1,h2,h3,h4,h5,h6⟩:=h;rw[hx] at h1;simp only[Value.tuple.injEq,List.toArray_inj,List.cons.injEq] at h1;obtain⟨rfl,rfl⟩:=h1;refine⟨a,cap,by simp[h2],by simpa using h3,h4,by simpa using h5,?_⟩;rcases h6 with ⟨rfl,_,_⟩|⟨b,f,t,rfl,rfl,k1,_,k2⟩
 .exact .inl rfl
 .exact .inr ⟨b,0,rfl,hS b (by simp),cm.rd _ (p:=[]) (by simpa using k1) k2 λ b hb=>hS b (by simp[hb])⟩
theorem a5Z(GY:Lw c G lk w){id:Nat}{τ:Ty}{xs:List τ.den}{x:Value}(bm:lk id=some (.aD τ xs))(hx:C1 c G lk w (.aD id) x):Rd w (SX G lk) (Ty.bc (.slice τ) xs) [x]:=by
 obtain⟨_,l,h2,_⟩:=hx;exact (GY.tr id τ xs bm).rd h2 λ b hb => .inr (.inr ⟨id,τ,xs,bm,hb⟩)
theorem a7K(GY:Lw c G lk w)(qh:∀ id o,lk id=some o->OR c G lk w id o){lk':Nat->Option aG}(cY:∀ id o,lk' id=some o->lk id=some o){τ:Ty}{v:AV}{x:Value}{y:τ.den}(h:oD lk' τ v=some y)
  (hv:C1 c G lk w v x):Rd w (SX G lk) (τ.bc y) [x]:=by
 cases v with
 | aT u =>
  have e:=TV.bj h;subst e;exact Rd.bd (λ _ h=>SX.of h) (λ _ _=>rfl) _ hv.2
 | nil =>
  cases τ with
  | slice t =>
   simp only[oD,b0L] at h;subst h;exact⟨none,0,by rw[show x=_ from hv];rfl,by simp,by simp[maxLen],by simp, .inl rfl⟩
  | _=>cases h
 | row id =>
  simp only[oD] at h;split at h
  .rename_i e bw xs hl;have e1:=TV.bj h;cases e1;have so:=cY _ _ hl;rw[hv.1];exact a2Y (qh _ _ so) so
  .cases h
 | aD id =>
  simp only[oD] at h;split at h
  .rename_i bw xs hl;have e1:=TV.bj h;cases e1;exact a5Z GY (cY _ _ hl) hv
  .cases h
 | _=>cases h
theorem a6i{lk':Nat->Option aG}(lH:∀ id e τ xs,lk' id≠some (.row e τ xs))(SY:∀ id τ xs,lk' id≠some (.aD τ xs)){τ:Ty}{v:AV}{x:Value}{y:τ.den}(h:oD lk' τ v=some y)(hv:C1 c G lk w v x):Rd w G.S (τ.bc y) [x]:=by
 cases v with
 | aT u =>
  have e:=TV.bj h;subst e;exact hv.2
 | nil =>
  cases τ with
  | slice t =>
   simp only[oD,b0L] at h;subst h;exact⟨none,0,by rw[show x=_ from hv];rfl,by simp,by simp[maxLen],by simp, .inl rfl⟩
  | _=>cases h
 | row id =>
  simp only[oD] at h;split at h
  .rename_i hl;exact absurd hl (lH _ _ _ _)
  .cases h
 | aD id =>
  simp only[oD] at h;split at h
  .rename_i hl;exact absurd hl (SY _ _ _)
  .cases h
 | _=>cases h
theorem TG{τ:Ty}{v:AV}{x:Value}{y:τ.den}(h:oD (λ _=>none) τ v=some y)(hv:C1 c G lk w v x):Rd w G.S (τ.bc y) [x]:=by
 cases v with
 | aT u =>
  have e:=TV.bj h;subst e;exact hv.2
 | nil =>
  cases τ with
  | slice t =>
   simp only[oD,b0L] at h;subst h;exact⟨none,0,by rw[show x=_ from hv];rfl,by simp,by simp[maxLen],by simp, .inl rfl⟩
  | _=>cases h
 | _=>cases h
theorem R2{lk':Nat->Option aG}{R:TV->Value->Prop}{Q:AV->Value->Prop}(hR:∀ t v x y,oD lk' t v=some y->Q v x->R ⟨t,y⟩ x):∀ {cs:List AV} {ts:List Ty} {l:List TV} {vs:List Value},Ui lk' cs ts=some l->bf Q cs vs->bf R l vs
 | [],[],l,vs,h,k=>by
  simp only[Ui,b0L] at h;subst h;match vs,k with
  | [],_=>trivial
 | v::cs,t::ts,l,vs,h,k=>by
  simp only[Ui] at h;split at h
  .rename_i x hx;split at h
   .rename_i r hr;simp only[b0L] at h;subst h;match vs,k with
    | u::us,k=>exact⟨hR _ _ _ _ hx k.1,R2 hR hr k.2⟩
   .cases h
  .cases h
 | [],_::_,_,_,h,_=>by cases h
 | _::_,[],_,_,h,_=>by cases h
theorem Ly{S:Nat->Prop}{lk':Nat->Option aG}(h1:∀ τ v x (y:τ.den),oD lk' τ v=some y->C1 c G lk w v x->Rd w S (τ.bc y) [x])(hS:∀ b,G.S b->S b)
  {τ:Ty} {v:AV} {x:Value} {y:τ.den} (h:GJ lk' τ v=some y) (hv:VR c G lk w v x):gM w S ⟨τ,y⟩ x:=by
 have xM:∀ (yp:∀ cs,v ≠ .agg cs),oD lk' τ v=some y->gM w S ⟨τ,y⟩ x:=by
  intro yp ha;cases v with
  | aT u =>
   have e:=TV.bj ha;subst e;exact gM.mono (G:=G) (G':=⟨S,G.η,G.φ⟩) hv hS (λ _ _=>rfl)
  | nil =>
   have:=h1 τ .nil x y ha hv;cases τ with
   | st s=>cases ha
   | _=>exact this
  | row i =>
   have:=h1 τ (.row i) x y ha hv;cases τ with
   | st s =>
    simp only[oD] at ha;split at ha
    .have e:=TV.bj ha;cases e
    .cases ha
   | _=>exact this
  | aD i =>
   have:=h1 τ (.aD i) x y ha hv;cases τ with
   | st s =>
    simp only[oD] at ha;split at ha
    .have e:=TV.bj ha;cases e
    .cases ha
   | _=>exact this
  | agg cs=>exact absurd rfl (yp cs)
  | _=>cases ha
 cases v with
 | agg cs =>
  cases τ with
  | st s =>
   simp only[GJ] at h;split at h
   .rename_i l hl;obtain⟨vs,rfl,CJ⟩:=hv;refine⟨vs,rfl,?_⟩;rw[aY.cP,aY.sF h];exact eb.eL.2 (R2 (λ t u z k hk hz=>h1 t u z k hk hz) hl CJ)
   .cases h
  | _=>cases h
 | _=>exact xM (by intro cs;simp) h
theorem EM(GY:Lw c G lk w)(qh:∀ id o,lk id=some o->OR c G lk w id o){lk':Nat->Option aG}(cY:∀ id o,lk' id=some o->lk id=some o){τ:Ty}{v:AV}{x:Value}{y:τ.den}(h:GJ lk' τ v=some y)
  (hv:VR c G lk w v x):gM w (SX G lk) ⟨τ,y⟩ x :=
 Ly (λ τ v x y h hv=>a7K GY qh cY h hv) (λ _ h=>SX.of h) h hv
theorem Dk{lk':Nat->Option aG}(lH:∀ id e τ xs,lk' id≠some (.row e τ xs))(SY:∀ id τ xs,lk' id≠some (.aD τ xs)){τ:Ty}{v:AV}{x:Value}{y:τ.den}(h:GJ lk' τ v=some y)(hv:VR c G lk w v x):gM w G.S ⟨τ,y⟩ x :=
 Ly (λ τ v x y h hv=>a6i lH SY h hv) (λ _ h=>h) h hv
theorem NF{τ:Ty}{v:AV}{x:Value}{y:τ.den}(h:GJ (λ _=>none) τ v=some y)(hv:VR c G lk w v x):gM w G.S ⟨τ,y⟩ x :=
 Ly (λ τ v x y h hv=>TG h hv) (λ _ h=>h) h hv
theorem Cy{τ:Ty}{v:AV}{x:Value}{new:List AV}(h:cellsOf τ v=some new)(hv:VR c G lk w v x) :
  bf (C1 c G lk w) new x.cells.toList/\(∀ u∈x.cells.toList,u.oneCell'=true)/\new.length=τ.size:=by
 have one:v.cell=true->new=[v]->τ.size=1->bf (C1 c G lk w) new x.cells.toList/\(∀ u∈x.cells.toList,u.oneCell'=true)/\new.length=τ.size:=by
  intro hc hn hs;subst hn;have h1:=hv.Yf hc;obtain⟨h2,h3⟩:=h1.leaf hc;rw[h3];exact⟨⟨h1,af⟩,by simpa using h2,by simp[hs]⟩
 cases τ with
 | st s =>
  simp only[cellsOf] at h;split at h
  .rename_i u;split at h
   .rename_i y hy;simp only[b0L] at h;subst h;have e:=TV.bj hy;subst e;obtain⟨cs,rfl,hr⟩:=hv;rw[aY.cP] at hr;have ha:=eb.eL.1 hr;refine⟨?_,?_,by simp[Ty.size,aY.mK]⟩
    .simp only[Value.cells];refine bf.fX _ (ha.imp λ u z hu hz=>⟨?_,hz⟩);have:=aY.tT s y u hu;obtain⟨bw,z'⟩:=u;cases bw with
     | st s'=>simp[TV.bc,Ty.bc,aY.cP,D.leaf] at this
     | _=>rfl
    .simp only[Value.cells];intro u hu;obtain⟨i,hi,hiu⟩:=b3v hu;have hlen:=ha.length;obtain⟨b,hb,Mx⟩:=ha.at_ i (s.cells y)[i] (b1p (by omega));have cO:b=u:=by
      have:cs[i]?=some u:=by rw[b1p hi,hiu]
      rw[this] at hb;exact (b3y hb).symm
     subst cO;obtain⟨z,h1,h2⟩:=Rd.xR (aY.tT s y _ (b2d _)) Mx;simp only[b0T,b1b] at h1;subst h1;exact B5 h2
   .cases h
  .rename_i cs;split at h
   .rename_i hb;simp only[Option.some.injEq] at h;subst h;simp only[Bool.and_eq_true] at hb;obtain⟨l,rfl,hl⟩:=hv;refine⟨by simpa [Value.cells] using hl,?_,by simpa [Ty.size] using Nat.eq_of_beq_eq_true hb.1⟩;simp only[Value.cells];intro u hu;obtain⟨i,hi,hiu⟩:=List.getElem_of_mem hu;have hlen:=hl.length;obtain⟨b,cO,Mx⟩:=hl.at_ i cs[i] (List.getElem?_eq_getElem (by omega));have hbu:b=u:=by
     have:l[i]?=some u:=by rw[b1p hi,hiu]
     rw[this] at cO;exact (b3y cO).symm
    subst hbu;exact (Mx.leaf (b1L.1 hb.2 _ (b2d _))).1
   .cases h
  .cases h
 | int k =>
  simp only[cellsOf] at h;split at h
  .rename_i hc;simp only[b0L] at h;exact one hc h.symm rfl
  .cases h
 | bool =>
  simp only[cellsOf] at h;split at h
  .rename_i hc;simp only[b0L] at h;exact one hc h.symm rfl
  .cases h
 | str =>
  simp only[cellsOf] at h;split at h
  .rename_i hc;simp only[b0L] at h;exact one hc h.symm rfl
  .cases h
 | ptr =>
  simp only[cellsOf] at h;split at h
  .rename_i hc;simp only[b0L] at h;exact one hc h.symm rfl
  .cases h
 | mv t =>
  simp only[cellsOf] at h;split at h
  .rename_i hc;simp only[b0L] at h;exact one hc h.symm rfl
  .cases h
 | slice t =>
  simp only[cellsOf] at h;split at h
  .rename_i hc;simp only[b0L] at h;exact one hc h.symm rfl
  .cases h
theorem H2{cs:List AV}{l:List Value}(hl:bf (C1 c G lk w) cs l){off:Nat}{τ:Ty}{u:AV}(h:Jr cs off τ=some u) :
  VR c G lk w u (Km τ ((l.drop off).take τ.size))/\((l.drop off).take τ.size).length=τ.size/\off+τ.size<=l.length:=by
 have hlen:=hl.length;have one:τ.size=1->(∀ s,τ ≠ .st s)->cs[off]?=some u->VR c G lk w u (Km τ ((l.drop off).take τ.size))/\((l.drop off).take τ.size).length=τ.size/\off+τ.size<=l.length:=by
  intro hs cI hu;obtain⟨x,hx,hr⟩:=hl.at_ off u hu;have bX:off<l.length:=(b1K.1 hx).1;have he:(l.drop off).take 1=[x]:=by
   rw[b2x bX];have:=(b1K.1 hx).2;simp[this]
  rw[hs,he];refine⟨?_,rfl,by omega⟩;have:Km τ [x]=x:=by cases τ<;>first|rfl|exact absurd rfl (cI _)
  rw[this];exact hr.jS
 cases τ with
 | st s =>
  simp only[Jr] at h;split at h
  .rename_i hb;simp only[b0L] at h;subst h;have hle:=b1r hb;refine⟨⟨_,rfl,(hl.drop off).take s.size⟩,?_,?_⟩
   .simp only[Ty.size,b1C,b1Y];omega
   .simp only[Ty.size];omega
  .cases h
 | int k=>exact one rfl (by intro s;simp) h
 | bool=>exact one rfl (by intro s;simp) h
 | str=>exact one rfl (by intro s;simp) h
 | slice t=>exact one rfl (by intro s;simp) h
 | mv t=>exact one rfl (by intro s;simp) h
 | ptr=>exact one rfl (by intro s;simp) h
theorem cG.part{bk o:Nat}{l:List Value}(h:cG w bk o l)(off n:Nat):cG w bk (o+off) ((l.drop off).take n):=λ j v hj=>by
 rw[b2p] at hj;split at hj
 .rw[b2B] at hj;have:=h (off+j) v hj;rwa [<-b3H] at this
 .cases hj
theorem cG.of_heap{bk:Nat}{l:List Value}{t:TypeId}{fr:Nat×Nat}(h:w.heap[bk]?=some (.cells l.toArray t fr)):cG w bk 0 l:=λ j v hj=>by
 simp only[World.cell?,h,Nat.zero_add,Option.isSome_none];simpa using hj
theorem a1U{S:Nat->Prop}{v u:TV}{off:Nat}{τ:Ty}(h:v.part off τ=some u){l:List Value}(hl:Rd w S v.bc l) :
  u.τ=τ/\((l.drop off).take τ.size).length=τ.size/\Rd w S u.bc ((l.drop off).take τ.size):=by
 have hlen:=Rd.length _ hl;rw[show v.bc=v.τ.bc v.x from rfl,Ty.dn] at hlen;unfold TV.part at h;split at h
 .rename_i hb;simp only[b0R] at hb;simp only[b0L] at h;subst h;have h0:=b0P hb.1;have h1:=b1z hb.2;subst h0;subst h1;rw[b2S,b1v (by omega)];exact⟨rfl,hlen,hl⟩
 .split at h
  .rename_i z hz;split at h
   .rename_i hb;simp only[b0L] at h;subst h;have h1:=b1z hb;subst h1;obtain⟨bw,y⟩:=v;have key:∀ (x:Value),l[off]?=some x->z.τ.agg=false->Rd w S z.bc [x]->z.τ=z.τ/\((l.drop off).take z.τ.size).length=z.τ.size/\Rd w S z.bc ((l.drop off).take z.τ.size):=by
     intro x hx ha hr;have bX:off<l.length:=(b1K.1 hx).1;have he:(l.drop off).take 1=[x]:=by
      rw[b2x bX];have:=(b1K.1 hx).2;simp[this]
     rw[Ty.ot ha,he];exact⟨rfl,rfl,hr⟩
    cases bw with
    | st s =>
     simp only[TV.cells] at hz;rw[show TV.bc ⟨.st s,y⟩=s.bc y from rfl,aY.cP] at hl;obtain⟨x,hx,hr⟩:=(eb.eL.1 hl).at_ off z hz;refine key x hx ?_ hr;have:=aY.tT s y z (b2o hz);obtain⟨b0i,z'⟩:=z;cases b0i with
     | st s'=>simp[TV.bc,Ty.bc,aY.cP,D.leaf] at this
     | _=>rfl
    | _ =>
     simp only[TV.cells] at hz;cases off with
     | zero =>
      simp at hz;subst hz;obtain⟨x,rfl,_⟩:=Rd.xR (oe rfl) hl;exact key x rfl rfl hl
     | succ k=>simp at hz
   .cases h
  .cases h
theorem a3Q{id:Nat}{e:TypeId}{τ:Ty}{xs:List τ.den}(ho:OR c G lk w id (.row e τ xs)){b n cap:Nat}(gH:G.η id = .slice (some ⟨b,0,none⟩) n cap){i:Nat}(hi:i<xs.length) :
  ∃ cs,cs.length=τ.size/\cG w b (i * τ.size) cs/\Rd w G.S (τ.bc (xs.getD i τ.zero)) cs:=by
 obtain⟨l,h1,h2,h3⟩:=ho;have dh:∀ d∈xs.map τ.bc,d.size=τ.size:=by
  intro d hd;obtain⟨y,_,rfl⟩:=b0S.1 hd;exact Ty.dn τ y
 have hll:=gL.length _ h2 dh;have UZ:=gL.at_ _ h2 dh i (τ.bc (xs.getD i τ.zero)) (by simp[List.getD,hi]);have hlen:=Rd.length _ UZ;rw[Ty.dn] at hlen;refine⟨_,hlen,?_,UZ⟩;have hc:cG w b 0 l:=λ j v hj=>by
  have:=h1.cells (g:=b) (by rw[gH];rfl) j v hj;rwa [b3j] at this
 have:=hc.part (i * τ.size) τ.size;rwa [b2W] at this
theorem uP(qh:∀ id o,lk id=some o->OR c G lk w id o){lk':Nat->Option aG}(cY:∀ id o,lk' id=some o->lk id=some o){τ:Ty}{v u:AV}{x:Value}(h:wB lk' τ v=some u)(hv:VR c G lk w v x) :
  ∃ b o cs,x = .pointer (some ⟨b,o,none⟩)/\cG w b o cs/\cs.length=τ.size/\VR c G lk w u (Km τ cs):=by
 cases v with
 | dH z =>
  simp only[wB] at h;split at h
  .rename_i hb;simp only[b0L] at h;subst h;have e:=b1z hb;subst e;obtain⟨b,o,cs,h1,h2,h3,h4⟩:=hv;refine⟨b,o,cs,h1,h3,?_,gM.mk_ h4⟩;rw[Rd.length _ h4];exact Ty.dn _ _
  .cases h
 | ptr id off =>
  simp only[wB] at h;split at h
  .rename_i cs hl;obtain⟨b,h1,h2,h3⟩:=hv;obtain⟨b',l,t,k1,k2,k3⟩:=qh _ _ (cY _ _ hl);rw[h1] at k1;simp only[b3w,b0L,b2J,b1b] at k1;subst k1;obtain⟨m1,m2,m3⟩:=H2 k3 h;refine⟨b,off,_,h2,?_,m2,m1⟩;have:=(cG.of_heap k2).part off τ.size;rwa [b2W] at this
  .cases h
 | gp id i off =>
  simp only[wB] at h;split at h
  .rename_i e bw xs hl;split at h
   .rename_i z hz;simp only[b0L] at h;subst h;obtain⟨b,n,cap,e1,W9,W8,h1,h2,h3,h4⟩:=hv;have so:=cY _ _ hl;rw[so] at h2;simp only[b0L,aG.row.injEq] at h2;obtain⟨rfl,rfl,h2⟩:=h2;have h2:=b4p h2;subst h2;obtain⟨cs,m1,m2,m3⟩:=a3Q (qh _ _ so) h1 h3;obtain⟨p1,p2,p3⟩:=a1U (v:=⟨bw,xs.getD i bw.zero⟩) hz m3;subst p1;exact⟨b,_,_,h4,m2.part off _,p2,gM.mk_ p3⟩
   .cases h
  .cases h
 | _=>cases h
end
theorem gI{k:IntKind}{n:Int}(h:cb k n):k.min<=n/\n<=k.max:=by
 cases k<;>first
  | exact h
  | (simp only[cb,U] at h;simp only[IntKind.min,IntKind.max,IntKind.signed,IntKind.bits,b2D];exact⟨by omega,by omega⟩)
theorem xG{k:IntKind}{n:Int}(h:k.min<=n/\n<=k.max):k.wrap n=n:=by
 cases k<;>simp[IntKind.min,IntKind.max,IntKind.signed,IntKind.bits] at h<;>simp[IntKind.wrap,IntKind.signed,IntKind.bits]<;>(try split)<;>omega
theorem WB(n:Int):IntKind.u64.min<=IntKind.u64.wrap n/\IntKind.u64.wrap n<=IntKind.u64.max:=by
 simp[IntKind.min,IntKind.max,IntKind.signed,IntKind.bits,IntKind.wrap];omega
theorem a1N{k:IntKind}{a:Int}(h0:0<=a)(h:k.min<=a/\a<=k.max):a.toNat<2 ^ k.bits:=by
 cases k<;>simp[IntKind.min,IntKind.max,IntKind.signed,IntKind.bits] at h ⊢<;>omega
theorem a3i{k:IntKind}{a b:Int}(ha0:0<=a)(OF:0<=b)(ha:k.min<=a/\a<=k.max)(hb:k.min<=b/\b<=k.max) :
  k.wrap ((BitVec.ofInt k.bits a &&& BitVec.ofInt k.bits b).toNat:Int)=((a.toNat &&& b.toNat:Nat):Int)/\k.min<=((a.toNat &&& b.toNat:Nat):Int)/\((a.toNat &&& b.toNat:Nat):Int)<=k.max:=by
 have h1:∀ x:Int,0<=x->k.min<=x/\x<=k.max->(BitVec.ofInt k.bits x).toNat=x.toNat:=λ x h0 hx=>by
  obtain⟨n,rfl⟩:=b3E h0;have:=a1N h0 hx;simp only[b1d] at this ⊢;rw[show BitVec.ofInt k.bits (n:Int)=BitVec.ofNat k.bits n from BitVec.ofInt_natCast ..,BitVec.toNat_ofNat];exact Nat.mod_eq_of_lt this
 have hle:((a.toNat &&& b.toNat:Nat):Int)<=a:=by
  have := @Nat.and_le_left a.toNat b.toNat;omega
 have hr:k.min<=((a.toNat &&& b.toNat:Nat):Int)/\((a.toNat &&& b.toNat:Nat):Int)<=k.max:=by
  refine⟨?_,by omega⟩;have:k.min<=0:=by cases k<;>decide
  omega
 rw[BitVec.toNat_and,h1 a ha0 ha,h1 b OF hb];exact⟨xG hr,hr⟩
theorem Uh{op:BinOp}{k yk:IntKind}{a b r:Int}{p:Vc}(h:arith op k a b=some (p,r))(hp:p.ok)(hk:op = .shl\/op = .shr\/yk=k)(P:Program)(t:TypeId)(w:World) :
  (binOp op t (.int k a) (.int yk b)).run P w = .ok (.int k r) w/\k.min<=r/\r<=k.max:=by
 cases op<;>simp only[arith] at h<;>try cases h
 case add =>
  have hk:yk=k:=by simpa using hk
  subst hk;split at h<;>simp only[b0L,b0O] at h<;>obtain⟨rfl,rfl⟩:=h
  .exact⟨by simp[binOp_add,Op.intArith],WB _⟩
  .have:=gI hp;exact⟨by simp[binOp_add,Op.intArith,xG this],this⟩
 case sub =>
  have hk:yk=k:=by simpa using hk
  subst hk;have:=gI hp;exact⟨by simp[binOp_sub,Op.intArith,xG this],this⟩
 case mul =>
  have hk:yk=k:=by simpa using hk
  subst hk;split at h<;>simp only[b0L,b0O] at h<;>obtain⟨rfl,rfl⟩:=h
  .exact⟨by simp[binOp_mul,Op.intArith],WB _⟩
  .have:=gI hp;exact⟨by simp[binOp_mul,Op.intArith,xG this],this⟩
 case quo =>
  have hk:yk=k:=by simpa using hk
  subst hk;have:=gI hp.2;exact⟨by simp[binOp_quo,Op.intDiv,hp.1,xG this],this⟩
 case rem =>
  have hk:yk=k:=by simpa using hk
  subst hk;have:=gI hp.2;exact⟨by simp[binOp_rem,Op.intDiv,hp.1],this⟩
 case and =>
  have hk:yk=k:=by simpa using hk
  subst hk;obtain⟨h1,h2⟩:=a3i hp.1 hp.2.1 (gI hp.2.2.1) (gI hp.2.2.2);exact⟨by simp only[binOp_and,Op.intBits,b1w,h1],h2⟩
 case shl =>
  have hp1:b<(k.bits:Int):=hp.2.1;have:=gI hp.2.2;have hb:min b.toNat k.bits=b.toNat:=by omega
  exact⟨by simp[binOp_shl,Op.shift,Int.not_lt.2 hp.1,hb,xG this],this⟩
 case shr =>
  have hp1:b<(k.bits:Int):=hp.2.1;have:=gI hp.2.2;have hb:min b.toNat k.bits=b.toNat:=by omega
  exact⟨by simp[binOp_shr,Op.shift,Int.not_lt.2 hp.1,hb],this⟩
theorem Zy(k:IntKind)(n:Int):k.min<=k.wrap n/\k.wrap n<=k.max:=by
 cases k<;>simp[IntKind.min,IntKind.max,IntKind.signed,IntKind.bits,IntKind.wrap]<;>omega
theorem ZI{wr:Bool}{op:BinOp}{k yk:IntKind}{a b r:Int}{p:Vc}(h:Yr wr op k a b=some (p,r))(hp:p.ok)(hk:op = .shl\/op = .shr\/yk=k)(P:Program)(t:TypeId)(w:World) :
  (binOp op t (.int k a) (.int yk b)).run P w = .ok (.int k r) w/\k.min<=r/\r<=k.max:=by
 unfold Yr at h;split at h
 .split at h
  .have hk:yk=k:=by simpa using hk
   subst hk;simp only[b0L,b0O] at h;obtain⟨rfl,rfl⟩:=h;exact⟨by simp[binOp_add,Op.intArith],Zy _ _⟩
  .have hk:yk=k:=by simpa using hk
   subst hk;simp only[b0L,b0O] at h;obtain⟨rfl,rfl⟩:=h;exact⟨by simp[binOp_sub,Op.intArith],Zy _ _⟩
  .have hk:yk=k:=by simpa using hk
   subst hk;simp only[b0L,b0O] at h;obtain⟨rfl,rfl⟩:=h;exact⟨by simp[binOp_mul,Op.intArith],Zy _ _⟩
  .exact Uh h hp hk P t w
 .exact Uh h hp hk P t w
theorem a4L{op:BinOp}{k:IntKind}{a b:Int}{r:Bool}(h:cmp op a b=some r)(P:Program)(t:TypeId)(w:World) :
  (binOp op t (.int k a) (.int k b)).run P w = .ok (.bool r) w:=by
 cases op<;>simp only[cmp,b0L] at h<;>try cases h
 .simp only[binOp_eql,b1w];congr 2
 .simp only[binOp_neq,b1w];congr 2
 .simp[binOp_lss]
 .simp[binOp_leq]
 .simp[binOp_gtr]
 .simp[binOp_geq]
section
variable {c:Ctx} {G:Gh} {lk:Nat->Option aG} {w:World}
theorem Xm(a b:ByteArray):(a.toList == b.toList)=decide (a.data.toList=b.data.toList):=by
 rw[b4C,b4C];rw[b3z];simp
theorem a1f(hE:bU c.P c.E){op:BinOp}{T:TypeId}{u v r:AV}{x y:Value}{p:Vc}{wr:Bool}(ox oy:Operand)
  (h:a1e (match ah c.E.ty T with
   | some (.bool,_)=>true
   | _=>false) wr op u v=some (p,r)) (hp:p.ok) (hu:VR c G lk w u x) (hv:VR c G lk w v y) :
  ∃ z,(do eqGuard op T ox oy x y;binOp op T x y:Sem Value).run c.P w = .ok z w/\VR c G lk w r z:=by
 unfold a1e at h;split at h
 .rename_i k a k' b;obtain⟨h1,h2⟩:=hu;obtain⟨h3,h4⟩:=hv;simp only[b0T,b1b] at h1 h3;subst h1 h3;simp only[eqGuard_at_int,b1u,b1w,b1j];split at h
  .rename_i p' r' har;have key:(op = .shl\/op = .shr\/k'=k)->p'.ok->∃ z,(binOp op T (.int k a) (.int k' b)).run c.P w = .ok z w/\VR c G lk w (.aT ⟨.int k,r'⟩) z:=λ hk Vb=>by
    obtain⟨h5,h6⟩:=ZI har Vb hk c.P T w;exact⟨_,h5,rfl,h6⟩
   split at h
   .simp only[b0L,b0O] at h;obtain⟨rfl,rfl⟩:=h;exact key (.inl rfl) hp
   .simp only[b0L,b0O] at h;obtain⟨rfl,rfl⟩:=h;exact key (.inr (.inl rfl)) hp
   .split at h
    .rename_i hk;simp only[b0L,b0O] at h;obtain⟨rfl,rfl⟩:=h;exact key (.inr (.inr (b1z hk).symm)) hp
    .cases h
  .split at h
   .rename_i hk;have hk:=b1z hk;subst hk;split at h
    .rename_i cc hc;simp only[b0L,b0O] at h;obtain⟨rfl,rfl⟩:=h;exact⟨_,a4L hc c.P T w,rfl⟩
    .cases h
   .cases h
 .rename_i a b;have hu:[x]=[.bool a]:=hu;have hv:[y]=[.bool b]:=hv;simp only[b0T,b1b] at hu hv;subst hu hv;split at h
  .rename_i hT;split at hT
   .rename_i r' hl;have hb:=hE.bool hl;split at h
    .simp only[b0L,b0O] at h;obtain⟨rfl,rfl⟩:=h;exact⟨.bool (a == b),by simp[binOp,run_equal_bool w T a b hb,eqGuard_at_bool],rfl⟩
    .simp only[b0L,b0O] at h;obtain⟨rfl,rfl⟩:=h;exact⟨.bool !(a == b),by simp[binOp,run_equal_bool w T a b hb,eqGuard_at_bool],rfl⟩
    .cases h
   .cases hT
  .cases h
 .rename_i a b;obtain⟨s,h1,h2,h3⟩:=hu;obtain⟨s',h4,h5,h6⟩:=hv;simp only[b0T,b1b] at h1 h4;subst h1 h4;subst h2 h5;split at h
  .simp only[b0L,b0O] at h;obtain⟨rfl,rfl⟩:=h;exact⟨.bool (s.toList == s'.toList),by simp[binOp,Op.stringOp,b4d],by rw[Xm];rfl⟩
  .simp only[b0L,b0O] at h;obtain⟨rfl,rfl⟩:=h;exact⟨.bool (!(s.toList == s'.toList)),by simp[binOp,Op.stringOp,b4d],by rw[Xm];rfl⟩
  .simp only[b0L,b0O] at h;obtain⟨rfl,rfl⟩:=h;have dh:s.size+s'.size<=140737488355328:=by
    have:=hp;simp only[b1S] at this;exact this
   have hs2:(s++s').size=s.size+s'.size:=ByteArray.size_append;refine⟨.string (s++s'),?_,s++s',rfl,by simp,by rw[hs2];exact dh⟩;have:¬ (((s.size+s'.size:Nat):Int)>IntKind.i64.max):=by rw[IntKind.max_i64];omega
   simp only[b4d,b1u,b1w,b1j,binOp,Op.stringOp,b0Y this]
  .cases h
 .cases h
theorem pb(hE:bU c.P c.E){T:TypeId}{n:aY}{b e:Nat}(h:ah c.E.ty T=some (.st n,b,e)){bk o:Nat}{i:Nat}(hi:i<n.jw.length)(w:World) :
  (Instr.fieldAt T (.pointer (some ⟨bk,o,none⟩)) i).run c.P w = .ok (.pointer (some ⟨bk,o+n.iK i,none⟩)) w:=by
 obtain⟨fs,h1,h2,h3⟩:=hE.st h;have hf:fs[i]?=some fs[i]:=b1W (by omega);obtain⟨t,b',e',h4,h5,h6⟩:=h3 i _ hf;have dh:=hE.sizeOf h5 w;have h0:t.size≠0:=Nat.pos_iff_ne_zero.1 t.size_pos;simp[Instr.fieldAt,b1Q h1,hf,Instr.sureAddr,fieldPlace,dh,h0,b3j,h6]
theorem V9(hE:bU c.P c.E){T:TypeId}{n:aY}{b e:Nat}(h:ah c.E.ty T=some (.st n,b,e)){l:List Value}{i:Nat}{t:Ty}(hi:n.jw[i]?=some t)
  (hl:n.iK i+t.size<=l.length) (w:World) :
  (Instr.field T (.agg l.toArray) i).run c.P w = .ok (Km t ((l.drop (n.iK i)).take t.size)) w:=by
 obtain⟨fs,h1,h2,h3⟩:=hE.st h;have bX:i<fs.size:=by have:=(b1K.1 hi).1;omega
 have hf:fs[i]?=some fs[i]:=b1W bX;obtain⟨t',b',e',h4,h5,h6⟩:=h3 i _ hf;rw[hi] at h4;simp only[b0L] at h4;subst h4;have dh:=hE.sizeOf h5 w;have hag:=hE.isAgg h5 w;simp only[Instr.field,b1u,b1Q h1,b1j,hf,asAgg,part,hag,b1w];cases nH:t.agg with
 | true =>
  simp only[b2D,b1u,dh,b1j,b1w,h6];cases t<;>first|(cases nH;done)|skip
  simp only[Km,Result.ok.injEq,Value.agg.injEq,b1b];apply b4w;simp[List.take_drop]
 | false =>
  have h1:=Ty.ot nH;simp only[b0V,b3I,h6];have hx:l.toArray[n.iK i]?=some (l[n.iK i]'(by omega)):=by rw[List.getElem?_toArray];exact b1p (by omega)
  rw[hx];simp only[b1w,h1];have he:(l.drop (n.iK i)).take 1=[l[n.iK i]'(by omega)]:=by
   rw[b2x (by omega),b3P,b1V]
  rw[he];cases t<;>first|rfl|cases nH
end
section
variable {c:Ctx} {G:Gh} {lk:Nat->Option aG} {w:World}
theorem a2h(k:IntKind):k.min<=0/\0<=k.max:=by cases k<;>decide
theorem Jj{τ:Ty}{v:Value}(h:AU τ v=true):C1 c G lk w (zeroCell τ) v:=by
 unfold AU at h;split at h
 .simp only[b0R] at h;have h1:=b1z h.1;have h2:=b1z h.2;subst h1 h2;exact⟨rfl,rfl,a2h _⟩
 .rename_i b;cases b
  .exact⟨rfl,rfl⟩
  .cases h
 .rename_i s;exact⟨rfl,s,rfl,List.isEmpty_iff.1 h,by simp[List.isEmpty_iff] at h;simp[ByteArray.size,h]⟩
 .rfl
 .exact⟨rfl,_,rfl⟩
 .cases h
theorem pK{τ:Ty}{z:Value}(h:Cr τ z=true):bf (C1 c G lk w) (zeroCells τ) z.cells.toList:=by
 have key:∀ (ts:List Ty) (vs:List Value),P8 ts vs=true->bf (C1 c G lk w) (ts.map zeroCell) vs:=by
  intro ts;induction ts with
  | nil=>intro vs h;cases vs<;>first|trivial|cases h
  | cons t ts ih =>
   intro vs h;cases vs with
   | nil=>cases h
   | cons v vs =>
    simp only[P8,b0R] at h;exact⟨Jj h.1,ih vs h.2⟩
 have one:∀ v,AU τ v=true->v.cells = #[v]:=by
  intro v hv;unfold AU at hv;split at hv<;>first|rfl|cases hv
 unfold Cr at h;split at h
 .rename_i s cs;exact key _ _ h
 .cases h
 .rename_i bw v h1 h2;rw[one _ h];have:zeroCells τ=[zeroCell τ]:=by
   cases τ<;>first|rfl|(rename_i s;cases v<;>first|exact absurd rfl (h2 s rfl)|cases h)
  rw[this];exact⟨Jj h,af⟩
theorem P9{S:Nat->Prop}{τ:Ty}{z:Value}(h:Cr τ z=true):Rd w S (τ.bc τ.zero) z.cells.toList:=by
 have h1:=pK (c:=⟨{ funcs := #[],goVersion := "",platform := "",initOrder := "",godebug := "",types := #[],rt:=default,cutTypes := #[],globals := #[],inits := #[],main:=0 },{ ty:=[],pty:=[],Qq:=λ _ _=>none },w,λ _=>True,S,λ _=>none,λ _=>False,λ _=>none⟩) (G:=⟨S,λ _=>undef,λ _=>[]⟩) (lk:=λ _=>none) (w:=w) h;have cell:∀ t x,C1 ⟨{ funcs := #[],goVersion := "",platform := "",initOrder := "",godebug := "",types := #[],rt:=default,cutTypes := #[],globals := #[],inits := #[],main:=0 },{ ty:=[],pty:=[],Qq:=λ _ _=>none },w,λ _=>True,S,λ _=>none,λ _=>False,λ _=>none⟩ ⟨S,λ _=>undef,λ _=>[]⟩ (λ _=>none) w (zeroCell t) x->Rd w S (t.bc t.zero) [x]:=by
  intro t x hx;cases t with
  | slice t'=>exact TG (τ := .slice t') (v := .nil) rfl hx
  | _=>exact hx.2
 cases τ with
 | st s =>
  simp only[zeroCells] at h1;show Rd w S (s.bc s.zero) _;rw[aY.cP];have hz:(s.cells s.zero).map TV.bc=s.zD.map λ t=>t.bc t.zero:=by cases s<;>rfl
  rw[hz];have h2:=bf.of_map _ h1;have:∀ (ts:List Ty) (vs:List Value),bf (λ t x=>Rd w S (t.bc t.zero) [x]) ts vs->eb w S (ts.map λ t=>t.bc t.zero) vs:=by
   intro ts;induction ts with
   | nil=>intro vs h;cases vs<;>first|rfl|cases h
   | cons t ts ih =>
    intro vs h;cases vs with
    | nil=>cases h
    | cons v vs=>exact⟨v,vs,rfl,h.1,ih vs h.2⟩
  exact this _ _ (h2.imp λ t x _ hx=>cell t x hx)
 | _ =>
  simp only[zeroCells] at h1;match hc:z.cells.toList,h1 with
  | [x],h1=>exact cell _ _ h1.1
theorem UO(off:Nat):∀ (xs:List Value) (k:Nat) (l:List Value),off+k+xs.length<=l.length ->
  (xs.zipIdx k).foldl (λ cs p=>cs.setIfInBounds (off+p.2) p.1) l.toArray=(l.take (off+k)++xs++l.drop (off+k+xs.length)).toArray
 | [],k,l,_=>by simp
 | x::xs,k,l,h=>by
  simp only[List.length_cons] at h;simp only[List.zipIdx_cons,List.foldl_cons];have:=UO off xs (k+1) (l.set (off+k) x) (by simp;omega);rw[List.setIfInBounds_toArray,this];congr 1;have e:=list_seg_step l (off+k) x xs (by omega);simpa [Nat.add_assoc] using e
theorem Qt(place:Nat->Option (Nat×Nat))(i off size:Nat)(v:Value)(rest:List (Nat×Value))(l:List Value)(hp:place i=some (off,size))(hs:v.cells.size=size)(hl:off+size<=l.length) :
  Instr.fill place l.toArray ((i,v)::rest)=Instr.fill place (l.take off++v.cells.toList++l.drop (off+size)).toArray rest:=by
 have hn:(decide (v.cells.size≠size)||decide (off+v.cells.size>l.toArray.size))=false:=by
  simp[hs];omega
 simp only[Instr.fill,hp,hn,b0V,b3I];congr 1;rw[<-Array.foldl_toList,Array.toList_zipIdx];have:=UO off v.cells.toList 0 l (by simp[hs];omega);simp only[b2I,b1S,hs] at this;exact this
theorem Lm{E:Env}{s:aY}{place:Nat->Option (Nat×Nat)}(hp:∀ i t,s.jw[i]?=some t->place i=some (s.iK i,t.size)) :
  ∀ {ps:List (Nat×AV)} {vs:List (Nat×Value)} {cs eJ:List AV} {l:List Value},partsOf E s cs ps=some eJ->bf (λ p q=>p.1=q.1/\VR c G lk w p.2 q.2) ps vs->bf (C1 c G lk w) cs l ->
   ∃ l',Instr.fill place l.toArray vs=some l'.toArray/\bf (C1 c G lk w) eJ l'
 | [],[],cs,eJ,l,h,_,hl=>by
  simp only[partsOf,b0L] at h;subst h;exact⟨l,rfl,hl⟩
 | (i,v)::ps,(j,x)::vs,cs,eJ,l,h,hv,hl=>by
  obtain⟨⟨DV,hx⟩,Vf⟩:=hv;have DV:i=j:=DV;subst DV;simp only[partsOf] at h;split at h
  .rename_i τ nH;split at h
   .rename_i new vx;split at h
    .rename_i cs1 DX;obtain⟨h1,_,h3⟩:=Cy vx hx;have hlen:=h1.length;have hll:=hl.length;unfold putCells at DX;split at DX
     .rename_i hb;have hb:=b1r hb;simp only[b0L] at DX;subst DX;have dh:x.cells.size=τ.size:=by rw[<-h3,hlen];simp
      have DU:s.iK i+τ.size<=l.length:=by omega
      rw[Qt place i _ _ x vs l (hp i τ nH) dh DU];refine Lm hp h Vf ?_;rw[b1P,<-h3];exact (hl.take _).append (h1.append (hl.drop _))
     .cases DX
    .cases h
   .cases h
  .cases h
 | [],_::_,_,_,_,_,hv,_=>hv.elim
 | _::_,[],_,_,_,_,hv,_=>hv.elim
theorem KW{τ:Ty}{place:Nat->Option (Nat×Nat)}(hp:∀ i,place i=some (i * τ.size,τ.size)) :
  ∀ {ps:List (Nat×AV)} {vs:List (Nat×Value)} {n:Nat} {xs:List τ.den} {l:List Value},wR τ n ps=some xs->bf (λ p q=>p.1=q.1/\VR c G lk w p.2 q.2) ps vs ->
   (n+ps.length) * τ.size=l.length->∃ r,Instr.fill place l.toArray vs=some (l.take (n * τ.size)++r).toArray/\gL w G.S (xs.map τ.bc) r
 | [],[],n,xs,l,h,_,hl=>by
  simp only[wR,b0L] at h;subst h;refine⟨[],?_,rfl⟩;simp only[b1n,b2I] at hl;rw[hl,b3p,b2h];rfl
 | (i,v)::ps,(j,x)::vs,n,xs,l,h,hv,hl=>by
  obtain⟨⟨DV,hx⟩,Vf⟩:=hv;have DV:i=j:=DV;subst DV;simp only[wR] at h;split at h
  .rename_i gT;have gT:=b0P gT;subst gT;split at h
   .rename_i y hy;split at h
    .rename_i ys QE;simp only[b0L] at h;subst h;have hr:=(NF hy hx).cells;have dh:x.cells.size=τ.size:=by
      have:=Rd.length _ hr;rw[show TV.bc ⟨τ,y⟩=τ.bc y from rfl,Ty.dn] at this;simpa using this
     simp only[b0Z] at hl;have OO:=τ.size_pos;have e1:(i+(ps.length+1)) * τ.size=i * τ.size+τ.size+ps.length * τ.size:=by
      rw[b2a,b2a];omega
     rw[Qt place i _ _ x vs l (hp i) dh (by omega)];obtain⟨r,h1,h2⟩:=KW hp (l:=l.take (i * τ.size)++x.cells.toList++l.drop (i * τ.size+τ.size)) QE Vf (by
      simp[dh];rw[show (i+1+ps.length) * τ.size=i * τ.size+τ.size+ps.length * τ.size by rw[b2a,b2a];omega];omega)
     refine⟨x.cells.toList++r,?_,_,_,rfl,hr,h2⟩;rw[h1];congr 2;rw[show (i+1) * τ.size=i * τ.size+τ.size by rw[b2a];omega];have ht:(l.take (i * τ.size)++x.cells.toList).length=i * τ.size+τ.size:=by simp[dh];omega
     rw[<-ht,b2T,b1P]
    .cases h
   .cases h
  .cases h
 | [],_::_,_,_,_,_,hv,_=>hv.elim
 | _::_,[],_,_,_,_,hv,_=>hv.elim
theorem F8{τ:Ty}:∀ {ps:List (Nat×AV)} {n:Nat} {xs:List τ.den},wR τ n ps=some xs->xs.length=ps.length
 | [],n,xs,h=>by
  simp only[wR,b0L] at h;subst h;rfl
 | (i,v)::ps,n,xs,h=>by
  simp only[wR] at h;split at h
  .split at h
   .split at h
    .rename_i ys QE;simp only[b0L] at h;subst h;simp[F8 QE]
    .cases h
   .cases h
  .cases h
theorem GF(z:Array Value)(k:Nat):(madeCells z ((k+1) * z.size)).toList=(madeCells z (k * z.size)).toList++z.toList:=by
 apply b3F;intro j;have e:(k+1) * z.size=k * z.size+z.size:=by rw[b2a];omega
 by_cases h1:j<k * z.size
 .rw[b2N (by simp[madeCells];exact h1)];have h2:j<(k+1) * z.size:=by omega
  simp[madeCells,h1,h2]
 .by_cases h2:j<(k+1) * z.size
  .rw[b2m (by simp[madeCells];omega)];have h3:j - k * z.size<z.size:=by omega
   have hm:j % z.size=j - k * z.size:=by
    have h4:(j - k * z.size+z.size * k) % z.size=j - k * z.size:=by rw[Nat.add_mul_mod_self_left,Nat.mod_eq_of_lt h3]
    rwa [Nat.mul_comm z.size k,Nat.sub_add_cancel (Nat.le_of_not_lt h1)] at h4
   simp[madeCells,h2,hm,h3]
  .rw[b2m (by simp[madeCells];omega)];have h3:¬ j - k * z.size<z.size:=by omega
   simp[madeCells,h2];omega
theorem Lg{S:Nat->Prop}{d:D}{z:Array Value}(h:Rd w S d z.toList):∀ k:Nat,gL w S (List.replicate k d) (madeCells z (k * z.size)).toList
 | 0=>by simp[madeCells,gL,Array.range_zero']
 | k+1=>by
  rw[GF,b3q];exact gL.append _ _ (Lg h k) ⟨z.toList,[],by simp,h,rfl⟩
theorem GG(z:Array Value)(n m:Nat)(h:n<=m):(madeCells z m).toList.take n=(madeCells z n).toList:=by
 apply b3F;intro j;rw[b2p];by_cases hj:j<n
 .have:j<m:=by omega
  simp[madeCells,hj,this]
 .simp[madeCells,hj]
end
def LV(d:Option Nat)(v:AV):aG->Prop
 | .box _=>∃ i,d=some i/\v = .ptr i 0
 | .row .. => ∃ i,d=some i/\v = .row i
 | .aD .. => False
 | .map .. => ∃ i,d=some i/\v = .mp i
def a2i(c:Ctx)(G:Gh)(lk:Nat->Option aG)(w:World)(x:Value):aG->Prop
 | .box cs=>∃ b l t,x = .pointer (some ⟨b,0,none⟩)/\w.heap[b]?=some (.cells l.toArray t (0,0))/\bf (C1 c G lk w) cs l
 | .row e τ xs=>∃ l,w.ownsRow 0 e τ.size x xs.length l/\gL w G.S (xs.map τ.bc) l/\xs.length<=140737488355328
 | .aD .. => False
 | .map m=>∃ b es clock,x = .map (some b)/\w.heap[b]?=some (.map es clock)/\Nq m es
def Bg(c:Ctx)(G:Gh)(sl:Nat->AV)(n:Nat)(lk:Nat->Option aG)(d:Option Nat)(a:Act)(w:World)(v:AV)(ob:Option aG)(a':Act)(w':World):Prop :=
 ∃ x S',a'=a.put d x/\bH c ⟨S',G.η,G.φ⟩ sl n lk a w' /\
  match ob with
  | none=>VR c ⟨S',G.η,G.φ⟩ lk w' v x
  | some o=>LV d v o/\a2i c ⟨S',G.η,G.φ⟩ lk w' x o/\∀ b,gi x=some b->w.heap.size<=b/\b<w'.heap.size/\¬ S' b
section
variable {c:Ctx} {G:Gh} {sl:Nat->AV} {n:Nat} {lk:Nat->Option aG} {a:Act} {w w':World}
theorem bH.grow(h:bH c G sl n lk a w)(hk:bV (λ _=>False) w w'){S':Nat->Prop}(hS:∀ b,b<w.heap.size->(S' b↔G.S b))(hLt:∀ b,S' b->b<w'.heap.size):bH c ⟨S',G.η,G.φ⟩ sl n lk a w':=by
 refine h.world ⟨hk.os,hk.tape,hk.output,hk.size,λ b hb _=>hk.block b hb (λ h=>h)⟩ (λ b hb=>(hS b (h.eV b hb)).2 hb) hS (λ b hb=>?_) hLt (λ b hb=>?_) (λ id o b ho hb=>?_) (λ id τ xs b ht hb=>hk.block b (h.aW.pl id τ xs b ht hb).2.2.1 (λ h=>h))
 .have h1:=h.sX b hb;exact (hS b (h.eV b h1)).2 h1
 .refine hk.block b ?_ (λ h=>h);rcases hb with hb|hb
  .exact h.eV b hb
  .exact b1c hb.1 h.bd.size
 .exact hk.block b (h.place id o b ho hb).2.2 (λ h=>h)
theorem jY(w:World)(o:Obj):bV (λ _=>False) w (w.alloc o):=⟨rfl,rfl,rfl,by simp,λ b hb _=>RowKit.Below.heap_alloc w o b hb⟩
theorem bH.alloc(h:bH c G sl n lk a w)(o:Obj):bH c G sl n lk a (w.alloc o) :=
 h.grow (S':=G.S) (jY w o) (λ _ _=>b2L) (λ b hb=>by have:=h.eV b hb;simp;omega)
theorem bH.Zr(h:bH c G sl n lk a w)(hk:bV (λ _=>False) w w')(b:Nat)(hb:St c G.S b):w'.heap[b]?=w.heap[b]?:=by
 refine hk.block b ?_ (λ h=>h);rcases hb with hb|hb
 .exact h.eV b hb
 .exact b1c hb.1 h.bd.size
theorem bH.a7W(h:bH c G sl n lk a w)(hk:bV (λ _=>False) w w'){v:AV}{x:Value}(hv:C1 c G lk w v x):C1 c G lk w' v x :=
 hv.mono (λ _ _=>⟨gw.refl _,rfl⟩) (λ _ h=>h) (h.Zr hk)
theorem cZ{o:Oper}{v:AV}{x:Value}{Q:Exit->Act->World->Prop}(hI:bH c G sl n lk a w)(hr:(execOp a.eval o).run c.P w = .ok (.value x) w)(hv:VR c G lk w v x) :
  o.wp c.P a w (Bg c G sl n lk o.dst a w v none) Q:=by
 unfold Oper.wp;rw[hr];exact⟨x,G.S,rfl,hI,hv⟩
theorem DK{o:Oper}{v:AV}{ob:aG}{x:Value}{Q:Exit->Act->World->Prop}(hI0:bH c G sl n lk a w)(hr:(execOp a.eval o).run c.P w = .ok (.value x) w')(hI:bH c G sl n lk a w')
  (hL:LV o.dst v ob) (hN:a2i c G lk w' x ob) (hb:∀ b,gi x=some b->w.heap.size<=b/\b<w'.heap.size) :
  o.wp c.P a w (Bg c G sl n lk o.dst a w v (some ob)) Q:=by
 unfold Oper.wp;rw[hr];exact⟨x,G.S,rfl,hI,hL,hN,λ b h=>⟨(hb b h).1,(hb b h).2,λ hs=>by have:=hI0.eV b hs;have:=(hb b h).1;omega⟩⟩
theorem X0{e:TypeId}{τ:Ty}{xs:List τ.den}{x:Value}{l:List Value}{S S':Nat->Prop}(h1:w.ownsRow 0 e τ.size x xs.length l)(h2:gL w S (xs.map τ.bc) l)(h3:xs.length<=140737488355328)(hS:∀ b,S b->S' b)(hb:∀ b,gi x=some b->S' b) :
  Rd w S' (Ty.bc (.slice τ) xs) [x]:=by
 rcases h1.2 with ⟨hv,hn⟩|⟨g,cap,cur,hv,_,hh,SW,hcm,oR,htk⟩
 .have hx:xs=[]:=b1X hn;subst hx;exact⟨none,0,by simp[hv],by simp,by simp[maxLen],by simp, .inl rfl⟩
 .refine⟨some ⟨g,0,none⟩,cap,by simp[hv],by simpa using SW,hcm,by simpa using h3,?_⟩;refine .inr ⟨g,0,rfl,hb g (by rw[hv];rfl),?_⟩;refine gL.row _ g 0 (h2.bd hS (λ _ _=>rfl)) λ j v hj=>?_;have:=h1.cells (g:=g) (by rw[hv];rfl) j v hj;rw[Addr.add_lit] at this;exact this
theorem a3q{o:Oper}{τ:Ty}{xs:List τ.den}{e:TypeId}{x:Value}{l:List Value}{Q:Exit->Act->World->Prop}(hI:bH c G sl n lk a w)(hr:(execOp a.eval o).run c.P w = .ok (.value x) w')(hk:bV (λ _=>False) w w')
  (h1:w'.ownsRow 0 e τ.size x xs.length l) (h2:gL w' G.S (xs.map τ.bc) l) (h3:xs.length<=140737488355328) (hb:∀ b,gi x=some b->w.heap.size<=b/\b<w'.heap.size) :
  o.wp c.P a w (Bg c G sl n lk o.dst a w (.aT ⟨.slice τ,xs⟩) none) Q:=by
 unfold Oper.wp;rw[hr];refine⟨x,λ b=>G.S b\/gi x=some b,rfl,hI.grow hk (λ b cO=>⟨λ q=>q.elim id λ q=>absurd (hb b q).1 (by omega), .inl⟩) λ b q=>q.elim (λ q=>Nat.lt_of_lt_of_le (hI.eV b q) hk.size) λ q=>(hb b q).2,?_⟩;exact X0 h1 h2 h3 (λ _ q => .inl q) (λ _ q => .inr q)
theorem Sc{v:TV}(h:v.flat=true){S S':Nat->Prop}{w w':World}{cs:List Value}(hr:Rd w S v.bc cs):Rd w' S' v.bc cs:=by
 have one:∀ u:TV,u.τ.agg=false->(match u.τ with | .slice _=>false | .mv _=>false|_=>true)=true->∀ cs,Rd w S u.bc cs->Rd w' S' u.bc cs:=by
  intro u h1 h2 cs h3;obtain⟨τ,y⟩:=u;cases τ<;>first|exact h3|(cases h1;done)|(simp at h2;done)
 obtain⟨τ,y⟩:=v;cases τ with
 | st s =>
  rw[show TV.bc ⟨.st s,y⟩=s.bc y from rfl,aY.cP] at hr ⊢;refine eb.eL.2 ((eb.eL.1 hr).imp λ u x hu hx=>?_);refine one u ?_ (b1L.1 h u hu) _ hx;have:=aY.tT s y u hu;obtain⟨bw,z⟩:=u;cases bw with
  | st s'=>simp[TV.bc,Ty.bc,aY.cP,D.leaf] at this
  | _=>rfl
 | slice t=>simp[TV.flat,TV.cells] at h
 | mv t=>simp[TV.flat,TV.cells] at h
 | ptr=>exact hr
 | int k=>exact hr
 | bool=>exact hr
 | str=>exact hr
theorem UM{v:TV}(h:v.flat=true){S S':Nat->Prop}{w w':World}{x:Value}(hr:gM w S v x):gM w' S' v x:=by
 obtain⟨τ,y⟩:=v;cases τ with
 | st s =>
  obtain⟨cs,h1,h2⟩:=hr;exact⟨cs,h1,Sc (v:=⟨.st s,y⟩) h h2⟩
 | _=>exact Sc (v:=⟨_,y⟩) (w:=w) (w':=w') (S:=S) (S':=S') h hr
theorem Fo{lk':Nat->Option aG}(cY:∀ id o,lk' id=some o->lk id=some o):∀ id o,wF lk' id=some o->lk id=some o:=by
 intro id o h;unfold wF at h;split at h
 .rename_i cs hc;simp only[b0L] at h;subst h;exact cY _ _ hc
 .cases h
theorem Fp{lk':Nat->Option aG}:∀ id e τ xs,wF lk' id≠some (.row e τ xs):=by
 intro id e τ xs h;unfold wF at h;split at h<;>simp at h
theorem Ch{lk':Nat->Option aG}:∀ id τ xs,wF lk' id≠some (.aD τ xs):=by
 intro id τ xs h;unfold wF at h;split at h<;>simp at h
theorem a1L{τ:Ty}{cs:List Value}{x:τ.den}{S:Nat->Prop}(h:gM w S ⟨τ,x⟩ (Km τ cs))(hl:cs.length=τ.size):Rd w S (τ.bc x) cs:=by
 cases τ with
 | st s =>
  obtain⟨eJ,h1,h2⟩:=h;simp only[Km,Value.agg.injEq] at h1;have:cs=eJ:=by have:=congrArg Array.toList h1;simpa using this
  subst this;exact h2
 | _ =>
  match cs,hl with
  | [v],_=>exact h
theorem CR.jS{v:AV}{x:Value}(h:CR c G lk w v x):VR c G lk w v x:=by
 cases v with
 | aT v=>exact h
 | agg cs=>exact h
 | any=>trivial
 | fO=>exact h
 | mI _=>exact h.elim
 | dO _ _=>exact h.elim
 | nil=>exact h
 | dH v=>exact h
 | ptr i o=>exact h
 | row i=>exact h
 | gp i k o=>exact h
 | fn f=>exact h
 | aD i=>exact h
 | sub i k o z=>exact h
 | gQ i k o z=>exact h
 | me v=>exact h
 | mp i=>exact h
theorem C1.a0O{v:AV}{x:Value}(h:C1 c G lk w v x):CR c G lk w v x:=by
 cases v with
 | aT v=>exact C1.jS (v := .aT v) h
 | agg cs=>exact h.elim
 | mI cs=>exact h.elim
 | dO f cs=>exact h.elim
 | _=>exact h
theorem CR.inv{v:AV}{x:Value}(h:CR c G lk w v x):(∃ u,v = .aT u/\gM w G.S u x)\/(∃ cs l,v = .agg cs/\x = .agg l.toArray/\bf (C1 c G lk w) cs l)\/C1 c G lk w v x:=by
 cases v with
 | aT v=>exact .inl ⟨v,rfl,h⟩
 | agg cs =>
  obtain⟨l,h1,h2⟩:=h;exact .inr (.inl ⟨cs,l,rfl,h1,h2⟩)
 | _=>exact .inr (.inr h)
theorem VR.a0O{v:AV}{x:Value}(h:VR c G lk w v x)(hc:v.a4I=true):CR c G lk w v x:=by
 cases v with
 | mI _=>cases hc
 | dO _ _=>cases hc
 | fO=>cases hc
 | me _=>cases hc
 | _=>exact h
theorem HS{S:Nat->Prop}{lk':Nat->Option aG}(hI:bH c G sl n lk a w)(cY:∀ id o,lk' id=some o->lk id=some o)
  (tm:∀ (τ:Ty) v x (y:τ.den),GJ lk' τ v=some y->VR c G lk w v x->gM w S ⟨τ,y⟩ x) {τ:Ty} {v:AV} {x:Value} {y:τ.den} (hy:deref lk' τ v=some y) (hx:VR c G lk w v x):Ls w S (.ref ⟨τ,y⟩) x:=by
 unfold deref at hy;split at hy
 .rename_i u hu;obtain⟨b,o,cs,h1,h2,h3,h4⟩:=uP hI.aR cY hu hx;have h5:=a1L (tm _ _ _ _ hy h4) h3;have OO:=τ.size_pos;have hc0:=h2 0 (cs[0]'(by omega)) (b1p (by omega));exact⟨b,o,cs,h1,World.block_lt_of_cell? w _ hc0,h2,h5⟩
 .cases hy
theorem EY{S:Nat->Prop}{lk':Nat->Option aG}(hI:bH c G sl n lk a w)(cY:∀ id o,lk' id=some o->lk id=some o)
  (tm:∀ (τ:Ty) v x (y:τ.den),GJ lk' τ v=some y->VR c G lk w v x->gM w S ⟨τ,y⟩ x) :
  ∀ {ks:List (Bool×Ty)} {vs:List AV} {Z9:List Arg} {xs:List Value},EX lk' ks vs=some Z9->bf (CR c G lk w) vs xs->bf (Ls w S) Z9 xs
 | [],[],Z9,xs,h,hv=>by
  simp only[EX,b0L] at h;subst h;match xs,hv with
  | [],_=>trivial
 | (true,τ)::ks,v::vs,Z9,xs,h,hv=>by
  simp only[EX] at h;split at h
  .rename_i y hy;split at h
   .rename_i r hr;simp only[b0L] at h;subst h;match xs,hv with
    | x::xs,hv=>exact⟨HS hI cY tm hy hv.1.jS,EY hI cY tm hr hv.2⟩
   .cases h
  .cases h
 | (false,τ)::ks,v::vs,Z9,xs,h,hv=>by
  simp only[EX] at h;split at h
  .rename_i y hy;split at h
   .rename_i r hr;simp only[b0L] at h;subst h;match xs,hv with
    | x::xs,hv=>exact⟨tm _ _ _ _ hy hv.1.jS,EY hI cY tm hr hv.2⟩
   .cases h
  .cases h
 | [],_::_,_,_,h,_=>by cases h
 | (true,_)::_,[],_,_,h,_=>by cases h
 | (false,_)::_,[],_,_,h,_=>by cases h
theorem LS(hE:bU c.P c.E){f:FuncId}{jP:List Arg}:∀ (ps:List Ty) (r:Ty) (acc:List Arg),Jk c.P f jP ps r (Uv c.E f jP ps r acc) acc
 | [],r,acc=>by
  show (Uv c.E f jP [] r acc).1->_;intro hp;generalize hF:Uv c.E f jP [] r acc=F at hp ⊢;rw[Uv] at hF;split at hF
  .rename_i pre v hc;split at hF
   .rename_i y hy;subst hF;have:=TV.bj hy;subst this;obtain⟨h1,h2⟩:=hE.Qq f _ _ _ hc hp;exact⟨h1,h2.ok0⟩
   .subst hF;exact hp.elim
  .subst hF;exact hp.elim
 | t::ts,r,acc=>λ x=>LS hE ts r (acc++[.val ⟨t,x⟩])
theorem R0{P:Program}{f:FuncId}{jP:List Arg}:∀ {ps:List Ty} {r:Ty} {F:FN ps r} {acc Z9:List Arg} {p:Prop} {y:r.den},Jk P f jP ps r F acc->xJ ps r F Z9=some (p,y)->p ->
  (oC P f/\Nr P f (acc++Z9++jP) (·=[⟨r,y⟩]))/\∀ z∈Z9,∃ v,z = .val v
 | [],r,F,acc,[],p,y,h,e,hp=>by
  simp only[xJ,Option.some.injEq] at e;have h':F.1->oC P f/\Nr P f (acc++jP) (·=[⟨r,F.2⟩]):=h;rw[e] at h';refine⟨by simpa using h' hp,by simp⟩
 | t::ts,r,F,acc, .val z::zs,p,y,h,e,hp=>by
  simp only[xJ] at e;split at e
  .rename_i x hx;have h':∀ x,Jk P f jP ts r (F x) (acc++[.val ⟨t,x⟩]):=h;obtain⟨h1,h2⟩:=R0 (h' x) e hp;have:=TV.bj hx;subst this;refine⟨by simpa using h1,λ z hz=>?_⟩;rcases List.mem_cons.1 hz with rfl|hz
   .exact⟨_,rfl⟩
   .exact h2 z hz
  .cases e
 | [],_,_,_,_::_,_,_,_,e,_=>by simp[xJ] at e
 | _::_,_,_,_,[],_,_,_,e,_=>by simp[xJ] at e
 | _::_,_,_,_, .ref _::_,_,_,_,e,_=>by simp[xJ] at e
 | _::_,_,_,_, .fn _::_,_,_,_,e,_=>by simp[xJ] at e
 | _::_,_,_,_, .dO _::_,_,_,_,e,_=>by simp[xJ] at e
theorem E2(hE:bU c.P c.E){S:Nat->Prop}{lk':Nat->Option aG}(hI:bH c G sl n lk a w)(cY:∀ id o,lk' id=some o->lk id=some o)(hSS:∀ b,G.S b->S b)
  (tm:∀ (τ:Ty) v x (y:τ.den),GJ lk' τ v=some y->VR c G lk w v x->gM w S ⟨τ,y⟩ x) {g:AV} {x:Value} {q:FV} (h:N6 c.E lk' g=some q) (hx:VR c G lk w g x):Bf c.P w S (.dO q) x:=by
 unfold N6 at h;split at h
 .rename_i f cs;split at h
  .rename_i k _;split at h
   .rename_i Z9 has;simp only[b0L] at h;subst h;obtain⟨l,h1,h2⟩:=hx;exact⟨f,Z9,l,h1,LS hE _ _ _,EY hI cY tm has h2⟩
   .cases h
  .cases h
 .simp only[b0L] at h;subst h;obtain⟨f,jP,l,h1,h2,h3⟩:=hx;refine⟨f,jP,l,h1,h2,h3.imp λ u y _ hy=>?_⟩;cases u with
  | val v=>exact gM.mono (G:=G) (G':=⟨S,G.η,G.φ⟩) hy hSS (λ _ _=>rfl)
  | ref v =>
   obtain⟨b,o,cs,k1,k2,k3,k4⟩:=hy;refine⟨b,o,cs,k1,?_,k3,Rd.bd hSS (λ _ _=>rfl) _ k4⟩;exact k2.elim (hI.eV b) λ k=>b1c k.1 hI.bd.size
  | fn f=>exact hy
  | dO v=>exact hy.elim
  | own v=>exact hy.elim
  | box k=>exact hy.elim
 .rename_i f;split at h
  .rename_i k _;split at h
   .simp only[b0L] at h;subst h;exact⟨f,[],[],hx,LS hE _ _ _,af⟩
   .cases h
  .cases h
 .cases h
theorem l7(hE:bU c.P c.E){S:Nat->Prop}{lk':Nat->Option aG}(hI:bH c G sl n lk a w)(cY:∀ id o,lk' id=some o->lk id=some o)(hSS:∀ b,G.S b->S b)
  (tm:∀ (τ:Ty) v x (y:τ.den),GJ lk' τ v=some y->VR c G lk w v x->gM w S ⟨τ,y⟩ x) :
  ∀ {Ts:List TypeId} {vs:List AV} {Z9:List Arg} {xs:List Value},qX c.E lk' Ts vs=some Z9->bf (VR c G lk w) vs xs->bf (Bf c.P w S) Z9 xs
 | [],[],Z9,xs,h,hv=>by
  simp only[qX,b0L] at h;subst h;match xs,hv with
  | [],_=>trivial
 | T::Ts,v::vs,Z9,xs,h,hv=>by
  simp only[qX] at h;split at h
  .rename_i p hp;split at h
   .rename_i r hr;simp only[b0L] at h;subst h;match xs,hv with
    | x::xs,hv =>
     refine⟨?_,l7 hE hI cY hSS tm hr hv.2⟩;have hx:=hv.1;unfold Ug at hp;split at hp
     .split at hp
      .rename_i y hy;simp only[b0L] at hp;subst hp;exact tm _ _ _ _ hy hx
      .cases hp
     .split at hp
      .rename_i τ _;split at hp
       .rename_i y hy;simp only[b0L] at hp;subst hp;exact HS hI cY tm hy hx
       .cases hp
      .split at hp
       .rename_i q hq;simp only[b0L] at hp;subst hp;exact E2 hE hI cY hSS tm hq hx
       .split at hp
        .simp only[b0L] at hp;subst hp;exact hx
        .cases hp
   .cases h
  .cases h
 | [],_::_,_,_,h,_=>by cases h
 | _::_,[],_,_,h,_=>by cases h
theorem Cl{S:Nat->Prop}{res:List TV}{x:Value}(h:FR w S res x){η:Nat->Value}{φ:Nat->List Nat}:VR c ⟨S,η,φ⟩ lk w (FA res) x:=by
 match res,h with
 | [v],h=>exact h
 | [],h =>
  obtain⟨l,h1,h2⟩:=h;exact⟨l,h1,bf.fX _ h2⟩
 | v::u::r,h =>
  obtain⟨l,h1,h2⟩:=h;exact⟨l,h1,bf.fX _ h2⟩
theorem XD{S S':Nat->Prop}{res:List TV}{x:Value}(hf:res.all TV.flat=true)(h:FR w S res x):FR w S' res x:=by
 have ph:∀ v∈res,v.flat=true:=b1L.1 hf;match res,h,ph with
 | [v],h,ph=>exact UM (ph v (by simp)) h
 | [],h,ph =>
  obtain⟨l,h1,h2⟩:=h;exact⟨l,h1,h2.imp λ v y hv hy=>UM (ph v hv) hy⟩
 | v::u::r,h,ph =>
  obtain⟨l,h1,h2⟩:=h;exact⟨l,h1,h2.imp λ v y hv hy=>UM (ph v hv) hy⟩
theorem R7(hE:bU c.P c.E)(hI:bH c G sl n lk a w){lk':Nat->Option aG}(cY:∀ id o,lk' id=some o->lk id=some o){o:Oper}{f:FuncId}{Ts:List TypeId}{vs:List AV}{xs:List Value}
  {vc:Vc} {v:AV} {ob:Option aG} (hq:Jl c.E lk' f Ts vs=some (vc,v,ob)) (fZ:vc.ok) (pX:bf (VR c G lk w) vs xs)
  (c9:oC c.P f->(execOp a.eval o).run c.P w = .ok (.enter f xs.toArray) w) {Q:Exit->Act->World->Prop}:o.wp c.P a w (Bg c G sl n lk o.dst a w v ob) Q:=by
 have fin:∀ (S:Nat->Prop) (Z9:List Arg) (pre:Vc) (res:List TV),c.E.Qq f Z9=some (pre,res)->pre.ok->bf (Bf c.P w S) Z9 xs->yI w S ->
   (∀ S' w' x,bV (λ _=>False) w w'->(∀ b,b<w.heap.size->(S' b↔S b))->(∀ b,S' b->b<w'.heap.size)->FR w' S' res x->Bg c G sl n lk o.dst a w (FA res) none (a.put o.dst x) w') ->
   o.wp c.P a w (Bg c G sl n lk o.dst a w (FA res) none) Q:=by
  intro S Z9 pre res hc zS has bX Mq;obtain⟨rV,mM⟩:=hE.Qq f Z9 pre res hc zS;unfold Oper.wp;rw[c9 rV];simp only[Oper.upon];refine (mM w S xs bX has).mono ?_;rintro e w' ⟨x,S',a9W,rfl,rfl,h1,h2,h3,h4⟩;exact Mq S' w' x h1 h2 h3 h4
 unfold Jl at hq;split at hq
 .rename_i Z9 has;split at hq
  .rename_i pre res hc;simp only[b0L,b0O] at hq;obtain⟨rfl,rfl,rfl⟩:=hq;refine fin G.S Z9 _ _ hc fZ (l7 hE hI (Fo cY) (λ _ h=>h) (λ τ v x y h1 h2=>Dk Fp Ch h1 h2) has pX) hI.sOk ?_;intro S' w' x h1 h2 h3 h4;exact⟨x,S',rfl,hI.grow h1 h2 h3,Cl h4⟩
  .cases hq
 .split at hq
  .rename_i Z9 has;split at hq
   .rename_i pre res hc;split at hq
    .rename_i hfl;simp only[b0L,b0O] at hq;obtain⟨rfl,rfl,rfl⟩:=hq;refine fin (SX G lk) Z9 _ _ hc fZ (l7 hE hI cY (λ _ h => .inl h) (λ τ v x y h1 h2=>EM hI.aW hI.aR cY h1 h2) has pX) ?_ ?_
     .exact hI.a3d
     .intro S' w' x h1 h2 h3 h4;exact⟨x,G.S,rfl,hI.grow (S':=G.S) h1 (λ _ _=>b2L) (λ b hb=>b1c (hI.eV b hb) h1.size),Cl (XD hfl h4)⟩
    .cases hq
   .cases hq
  .cases hq
theorem W2{o:Oper}{cl:Call}{fo:Operand}{f:FuncId}{l:List Value}(ho:o.op = .call cl)(hc:cl.callee = .value fo)(hf:a.eval fo = .func (.func f) #[] l.toArray)(rV:oC c.P f) :
  (execOp a.eval o).run c.P w = .ok (.enter f (cl.args.toList.map a.eval++l).toArray) w:=by
 obtain⟨fn,h1,h2,h3⟩:=rV;have h3':(fn.name = "runtime.NumGoroutine")=False:=by simpa using h3
 have h2':fn.body≠none:=by intro e;simp[e] at h2
 simp[execOp,ho,resolve,hc,Deferred.ofValue,hf,invoke,callFunc,h1,h2',h3']
theorem HM(hE:bU c.P c.E)(hI:bH c G sl n lk a w){lk':Nat->Option aG}(cY:∀ id o,lk' id=some o->lk id=some o){o:Oper}{cl:Call}{fo:Operand}{g:AV}{Ts:List TypeId}{vs:List AV}
  {vc:Vc} {v:AV} {ob:Option aG} (hq:DG c.E lk' g Ts vs=some (vc,v,ob)) (fZ:vc.ok) (pX:bf (VR c G lk w) vs (cl.args.toList.map a.eval)) (bL:o.op = .call cl) (kR:cl.callee = .value fo) (hg:VR c G lk w g (a.eval fo))
  {Q:Exit->Act->World->Prop}:o.wp c.P a w (Bg c G sl n lk o.dst a w v ob) Q:=by
 have fin:∀ (S:Nat->Prop) (Z9:List Arg) (q:FV) (pre:Prop) (y:q.r.den),xJ q.ps q.r q.F Z9=some (pre,y)->pre->bf (Bf c.P w S) Z9 (cl.args.toList.map a.eval)->Bf c.P w S (.dO q) (a.eval fo)->yI w S ->
   (∀ S' w' x,bV (λ _=>False) w w'->(∀ b,b<w.heap.size->(S' b↔S b))->(∀ b,S' b->b<w'.heap.size)->FR w' S' [⟨q.r,y⟩] x->Bg c G sl n lk o.dst a w (FA [⟨q.r,y⟩]) none (a.put o.dst x) w') ->
   o.wp c.P a w (Bg c G sl n lk o.dst a w (FA [⟨q.r,y⟩]) none) Q:=by
  intro S Z9 q pre y YM zS has a9v bX Mq;obtain⟨f,jP,l,h1,h2,h3⟩:=a9v;obtain⟨⟨rV,mM⟩,a0i⟩:=R0 h2 YM zS;unfold Oper.wp;rw[W2 bL kR h1 rV];simp only[Oper.upon];simp only[List.nil_append] at mM;have a9p:bf (Ls w S) Z9 (cl.args.toList.map a.eval):=has.imp λ u z hu hz=>by
   obtain⟨v,rfl⟩:=a0i u hu;exact hz
  refine (mM w S _ bX (a9p.append h3)).mono ?_;rintro e w' ⟨x,S',a9W,rfl,rfl,h1,h2,h3,h4⟩;exact Mq S' w' x h1 h2 h3 h4
 unfold DG at hq;split at hq
 .rename_i r0 Ve;split at Ve
  .rename_i Z9 has;split at Ve
   .rename_i q hqq;split at Ve
    .rename_i pre y YM;simp only[b0L] at Ve hq;subst Ve;simp only[b0O] at hq;obtain⟨rfl,rfl,rfl⟩:=hq;refine fin G.S Z9 q pre y YM fZ (l7 hE hI (Fo cY) (λ _ h=>h) (λ τ v x y h1 h2=>Dk Fp Ch h1 h2) has pX) (E2 hE hI (Fo cY) (λ _ h=>h) (λ τ v x y h1 h2=>Dk Fp Ch h1 h2) hqq hg) hI.sOk ?_;intro S' w' x h1 h2 h3 h4;exact⟨x,S',rfl,hI.grow h1 h2 h3,Cl h4⟩
    .cases Ve
   .cases Ve
  .cases Ve
 .split at hq
  .rename_i Z9 has;split at hq
   .rename_i q hqq;split at hq
    .rename_i pre y YM;split at hq
     .rename_i hfl;simp only[b0L,b0O] at hq;obtain⟨rfl,rfl,rfl⟩:=hq;refine fin (SX G lk) Z9 q pre y YM fZ (l7 hE hI cY (λ _ h => .inl h) (λ τ v x y h1 h2=>EM hI.aW hI.aR cY h1 h2) has pX) (E2 hE hI cY (λ _ h => .inl h) (λ τ v x y h1 h2=>EM hI.aW hI.aR cY h1 h2) hqq hg) ?_ ?_
      .exact hI.a3d
      .intro S' w' x h1 h2 h3 h4;exact⟨x,G.S,rfl,hI.grow (S':=G.S) h1 (λ _ _=>Iff.rfl) (λ b hb=>Nat.lt_of_lt_of_le (hI.eV b hb) h1.size),Cl (XD (res:=[⟨q.r,y⟩]) (by simpa using hfl) h4)⟩
     .cases hq
    .cases hq
   .cases hq
  .cases hq
theorem lp{o:Oper}{cl:Call}{fo:Operand}{f:FuncId}(ho:o.op = .call cl)(hc:cl.callee = .value fo)(hf:a.eval fo = .func (.func f) #[] #[])(rV:oC c.P f) :
  (execOp a.eval o).run c.P w = .ok (.enter f (cl.args.toList.map a.eval).toArray) w:=by
 obtain⟨fn,h1,h2,h3⟩:=rV;have h3':(fn.name = "runtime.NumGoroutine")=False:=by simpa using h3
 have h2':fn.body≠none:=by intro e;simp[e] at h2
 simp[execOp,ho,resolve,hc,Deferred.ofValue,hf,invoke,callFunc,h1,h2',h3'];apply b4w;simp
theorem bf.tg{ev:Operand->AV}(dx:∀ x,VR c G lk w (ev x) (a.eval x)):∀ l:List Operand,bf (VR c G lk w) (l.map ev) (l.map a.eval)
 | []=>trivial
 | x::r=>⟨dx x,bf.tg dx r⟩
theorem bf.Jz{ev:Operand->AV}(dx:∀ x,VR c G lk w (ev x) (a.eval x)):∀ l:List (Nat×Operand),
  bf (λ p q=>p.1=q.1/\VR c G lk w p.2 q.2) (l.map λ p=>(p.1,ev p.2)) (l.map λ p=>(p.1,a.eval p.2))
 | []=>trivial
 | x::r=>⟨⟨rfl,dx x.2⟩,bf.Jz dx r⟩
theorem oJ{S:Nat->Prop}{t:Ty}{xs:List t.den}{x:Value}(h:gM w S ⟨.slice t,xs⟩ x):∃ ad cap,x = .slice ad xs.length cap/\xs.length<=cap/\xs.length<=140737488355328 /\
  (xs=[]\/∃ b o,ad=some ⟨b,o,none⟩/\S b/\eH w S (xs.map t.bc) b o):=by
 obtain⟨ad,cap,h1,h2,h3,h4,h5⟩:=h;simp only[List.cons.injEq,and_true,List.length_map] at h1;exact⟨ad,cap,h1,by simpa using h2,by simpa using h4,h5.imp (λ h=>by simpa using h) id⟩
theorem a6D(lo hi m n:Int)(h1:lo<=m/\m<=hi)(h2:lo<=n/\n<=hi):lo<=max m n/\max m n<=hi:=by omega
theorem a6C(m n:Int):(if n>m then n else m)=max m n:=by
 rw[Int.max_def];split<;>split<;>omega
theorem a0s(hE:bU c.P c.E){op:BinOp}{T:TypeId}{u v r:AV}{x y:Value}{p:Vc}(ox oy:Operand)
  (h:Ze c.E op T u v=some (p,r)) (hp:p.ok) (hu:VR c G lk w u x) (hv:VR c G lk w v y) :
  ∃ z,(do eqGuard op T ox oy x y;binOp op T x y:Sem Value).run c.P w = .ok z w/\VR c G lk w r z:=by
 unfold Ze at h;split at h
 .rename_i t r1 τ xs hl;have hy:y = .slice none 0 0:=hv;subst hy;obtain⟨r1,r2⟩:=r1;obtain⟨hT,_⟩:=hE.slice hl;obtain⟨a,cap,h1,_,h3⟩:=oJ hu;subst h1;have heq:(Op.equal T (.slice a xs.length cap) (.slice none 0 0)).run c.P w = .ok a.isNone w:=by
   have h9:∀ d:Nat,(Op.equalIn (d+1) T (.slice a xs.length cap) (.slice none 0 0)).run c.P w = .ok a.isNone w:=λ d=>by
    cases a<;>simp[Op.equalIn,b1Q hT]
   exact h9 9999
  have key:1<=xs.length->a.isNone=false:=λ hx=>by
   rcases h3.2 with h|⟨b,o,h,_⟩
   .subst h;simp at hx
   .subst h;rfl
  split at h
  .simp only[b0L,b0O] at h;obtain⟨rfl,rfl⟩:=h;refine⟨.bool false,?_,rfl⟩;simp only[eqGuard_at_slice,b1u,b1w,b1j,binOp,heq,key hp]
  .simp only[b0L,b0O] at h;obtain⟨rfl,rfl⟩:=h;refine⟨.bool true,?_,rfl⟩;simp only[eqGuard_at_slice,b1u,b1w,b1j,binOp,heq,key hp];rfl
  .cases h
 .cases h
theorem a3U{S:Nat->Prop}{t:Ty}{ys:List t.den}{ad:Option Addr}{m cap:Nat}(h1:ys.length=m)(h2:m<=cap)(h3:cap<=maxLen)(h4:m<=140737488355328)
  (h5:ys=[]\/∃ b o,ad=some ⟨b,o,none⟩/\S b/\eH w S (ys.map t.bc) b o):gM w S ⟨.slice t,ys⟩ (.slice ad m cap):=by
 subst h1;exact⟨ad,cap,by simp,by simpa using h2,h3,by simpa using h4,h5.imp (λ h=>by simp[h]) id⟩
theorem vk(hE:bU c.P c.E){T:TypeId}{t:Ty}{b e:Nat}(h:ah c.E.ty T=some (.slice t,b,e)){bk o len cap:Nat}{k:IntKind}{i:Int}(h0:0<=i)(h1:i<len)(w:World) :
  (Instr.indexAt T (.slice (some ⟨bk,o,none⟩) len cap) (.int k i)).run c.P w = .ok (.pointer (some ⟨bk,o+i.toNat * t.size,none⟩)) w:=by
 obtain⟨h2,⟨b',e',h3⟩,_⟩:=hE.slice h;simp[Instr.indexAt,b1Q h2,asIntOf,h0,h1,hE.sizeOf h3 w,b3j]
theorem KX(s:aY)(y:s.den)(i:Nat){f:TV}(hf:(s.fields y)[i]?=some f):((s.cells y).drop (s.iK i)).take f.τ.size=f.cells/\s.iK i+f.τ.size<=s.size:=by
 have E9:∀ v:TV,v.cells.length=v.τ.size:=by
  rintro⟨τ,x⟩;cases τ<;>first|rfl|exact aY.mK _ _
 have key:∀ (l:List TV) (i:Nat) (f:TV),l[i]?=some f->((l.flatMap TV.cells).drop ((l.map TV.τ).take i |>.map Ty.size).sum).take f.τ.size=f.cells/\(((l.map TV.τ).take i).map Ty.size).sum+f.τ.size<=(l.flatMap TV.cells).length:=by
  intro l;induction l with
  | nil=>intro i f h;simp at h
  | cons g l ih =>
   intro i f h;cases i with
   | zero =>
    simp at h;subst h;have:=E9 g;simp only[b1V,b2A,List.sum_nil,b2S,List.flatMap_cons,b1l,b2W];exact⟨by rw[<-this,b2T],by omega⟩
   | succ i =>
    obtain⟨h1,h2⟩:=ih i f (by simpa using h);simp only[List.map_cons,List.take_succ_cons,List.sum_cons,List.flatMap_cons,List.length_append,<-E9 g];refine⟨?_,by omega⟩;rw[<-List.drop_drop,List.drop_left];exact h1
 have:=key _ i f hf;rw[<-aY.KR,aY.Bz,aY.mK] at this;exact this
theorem HV{S:Nat->Prop}{s:aY}{y:s.den}{i:Nat}{f:TV}(hf:(s.fields y)[i]?=some f){cs:List Value}(h:Rd w S (TV.bc ⟨.st s,y⟩) cs):Rd w S f.bc ((cs.drop (s.iK i)).take f.τ.size):=by
 obtain⟨h1,_⟩:=KX s y i hf;rw[show TV.bc ⟨.st s,y⟩=s.bc y from rfl,aY.cP] at h;have h2:=((eb.eL.1 h).drop (s.iK i)).take f.τ.size;rw[h1] at h2;obtain⟨τ,x⟩:=f;cases τ with
 | st s' =>
  show Rd w S (s'.bc x) _;rw[aY.cP];exact eb.eL.2 h2
 | _ =>
  simp only[TV.cells] at h2;match hc:(cs.drop (s.iK i)).take (Ty.size _),h2 with
  | [v],h2=>exact h2.1
theorem Z0{S:Nat->Prop}{s:aY}{y:s.den}{i:Nat}{f:TV}(hf:(s.fields y)[i]?=some f){cs:List Value}(h:Rd w S (s.bc y) cs):s.iK i+f.τ.size<=cs.length/\True:=by
 obtain⟨_,h1⟩:=KX s y i hf;have:=Rd.length _ h;rw[aY.cP] at this;simp only[D.size,b1o,aY.mK] at this;exact⟨by omega,af⟩
theorem Ty.size_le(τ:Ty):τ.size<=100:=by
 have:∀ s:aY,s.size<=100:=by intro s;cases s<;>decide
 cases τ<;>first|exact this _|(simp[Ty.size];done)
theorem Rd.wi{S:Nat->Prop}{τ:Ty}{x:τ.den}{cs:List Value}(h:Rd w S (τ.bc x) cs):∀ u∈cs,u.oneCell'=true:=by
 cases τ with
 | st s =>
  rw[show Ty.bc (.st s) x=s.bc x from rfl,aY.cP] at h;have ha:=eb.eL.1 h;intro u hu;obtain⟨i,hi,hiu⟩:=b3v hu;have hlen:=ha.length;obtain⟨b,hb,hr⟩:=ha.at_ i (s.cells x)[i] (b1p (by omega));have hbu:b=u:=by
   have:cs[i]?=some u:=by rw[b1p hi,hiu]
   rw[this] at hb;exact (b3y hb).symm
  subst hbu;obtain⟨z,h1,h2⟩:=Rd.xR (aY.tT s x _ (b2d _)) hr;simp only[b0T,b1b] at h1;subst h1;exact B5 h2
 | _ =>
  obtain⟨z,rfl,h2⟩:=Rd.xR (oe (v:=⟨_,x⟩) rfl) h;intro u hu;simp only[b1x] at hu;subst hu;exact B5 h2
theorem gL.wi{S:Nat->Prop}{τ:Ty}:∀ {xs:List τ.den} {l:List Value},gL w S (xs.map τ.bc) l->∀ u∈l,u.oneCell'=true
 | [],l,h=>by rw[show l=[] from h];simp
 | x::xs,l,h=>by
  obtain⟨c1,r,rfl,h2,h3⟩:=h;intro u hu;rcases b0Q.1 hu with hu|hu
  .exact Rd.wi h2 u hu
  .exact gL.wi h3 u hu
def Src(w:World)(S:Nat->Prop)(τ:Ty)(ys:List τ.den)(z:Value):Prop :=
 ∃ ad cap,z = .slice ad ys.length cap/\(ys=[]\/∃ b o news,ad=some ⟨b,o,none⟩/\cG w b o news/\gL w S (ys.map τ.bc) news)
theorem IJ{lk lk':Nat->Option aG}(cY:∀ id o,lk' id=some o->lk id=some o)(id:Nat)(o:aG)(h:O3 lk' id=some o):lk id=some o:=by
 unfold O3 at h;split at h
 .cases h
 .exact cY id o h
theorem a0t{lk:Nat->Option aG}(id:Nat)(τ:Ty)(xs:List τ.den):O3 lk id≠some (.aD τ xs):=by
 unfold O3;split
 .simp
 .rename_i lH;exact lH _ _
theorem a2l(qh:∀ id o,lk id=some o->OR c G lk w id o){lk':Nat->Option aG}(cY:∀ id o,lk' id=some o->lk id=some o)(SY:∀ id τ xs,lk' id≠some (.aD τ xs)){τ:Ty}{v:AV}{z:Value}{ys:List τ.den}(h:oD lk' (.slice τ) v=some ys)
  (hv:C1 c G lk w v z):Src w G.S τ ys z:=by
 cases v with
 | aT u =>
  have e:=TV.bj h;subst e;obtain⟨ad,cap,h1,h2,h3,h4⟩:=oJ (show gM w G.S ⟨.slice τ,ys⟩ z from hv.2);refine⟨ad,cap,h1,h4.imp id ?_⟩;rintro⟨b,o,h5,h6,h7⟩;obtain⟨news,h8,h9⟩:=eH.cells _ b o h7;exact⟨b,o,news,h5,h9,h8⟩
 | nil =>
  simp only[oD,b0L] at h;subst h;exact⟨none,0,hv, .inl rfl⟩
 | row id =>
  simp only[oD] at h;split at h
  .rename_i e bw xs hl;have e1:=TV.bj h;cases e1;have so:=cY _ _ hl;obtain⟨l,h1,h2,h3⟩:=qh _ _ so;rcases h1.2 with ⟨YZ,hn⟩|⟨g,cap,cur,YZ,_⟩
   .exact⟨none,0,by rw[hv.1,YZ,hn], .inl (b1X hn)⟩
   .refine⟨some ⟨g,0,none⟩,cap,by rw[hv.1,YZ], .inr ⟨g,0,l,rfl,?_,h2⟩⟩;intro j u hj;have:=h1.cells (g:=g) (by rw[YZ];rfl) j u hj;rw[b3j] at this;exact this
  .cases h
 | aD id =>
  simp only[oD] at h;split at h
  .rename_i hl;exact absurd hl (SY _ _ _)
  .cases h
 | _=>cases h
theorem R1{S:Nat->Prop}{base:Nat}(hE:bU c.P c.E){T:TypeId}{τ:Ty}{b e n:Nat}{v z:Value}{l:List Value}{ys:List τ.den}(hT:ah c.E.ty T=some (.slice τ,b,e))(wU:w.ownsRow base e τ.size v n l)
  (a4W:base<=w.heap.size) (tm:Src w S τ ys z) (Fb:bF (n+ys.length) b) (ty:TypeId) :
  ∃ v' w' news,(Builtin.append_ #[T,T] ty #[v,z]).run c.P w = .ok v' w'/\w'.ownsRow base e τ.size v' (n+ys.length) (l++news)/\w.grownBy w' v.ownBlock/\(v'.ownBlock=v.ownBlock\/v'.ownBlock=some w.heap.size) /\
   gL w S (ys.map τ.bc) news/\n+ys.length<=140737488355328:=by
 obtain⟨k1,⟨b',e',k2⟩,i,zv,k3,k4,k5,k6,k7⟩:=hE.slice hT;have hzs:zv.cells.size=τ.size:=by
  have:=Rd.length _ (P9 (w:=w) (S:=S) k7);rwa [Ty.dn,b1S] at this
 have OO:=τ.size_pos;have S1:(n+ys.length) * b<=140737488355328/\n+ys.length<=140737488355328:=by
  unfold bF at Fb;rw[Nat.mul_add,Nat.mul_one] at Fb;omega
 have ON:n+ys.length<=maxLen:=by simp only[maxLen];omega
 obtain⟨ad,cap,h1,h4⟩:=tm;subst h1;by_cases hy:ys=[]
 .subst hy;simp only[b1n,b2I] at *
  cases ad with
  | none =>
   refine⟨v,w,[],?_,by simpa using wU,⟨rfl,rfl,rfl,Nat.le_refl _,λ _ _ _=>rfl⟩, .inl rfl,rfl,S1.2⟩;rcases wU.2 with ⟨rfl,rfl⟩|⟨g,Xn,cur,rfl,_,_,SW,_⟩
   .simp[Builtin.append_,b1Q k1,sizeOf,typeInfo,k3,Builtin.lenOf,Builtin.firstCells]
   .simp[Builtin.append_,b1Q k1,sizeOf,typeInfo,k3,Builtin.lenOf,Builtin.firstCells,SW,storeCells]
  | some ad =>
   obtain⟨v',w',m1,m2,m3,_,m5⟩:=run_append_own_at (P:=c.P) w base T ty e i zv τ.size b k1 k3 k6 k4 k5 hzs OO v n l wU ad 0 cap [] (by simp) (by simp) (by simp) ON S1.1 a4W;exact⟨v',w',[],m1,m2,m3,m5,rfl,S1.2⟩
 .rcases h4 with h4|⟨bk,o',news,rfl,h8,h7⟩
  .exact absurd h4 hy
  .skip;have hlen:news.length=ys.length * τ.size:=by
    have:=gL.length (n:=τ.size) _ h7 (by
     intro d hd;obtain⟨y,_,rfl⟩:=b0S.1 hd;exact Ty.dn τ y)
    simpa using this
   obtain⟨v',w',m1,m2,m3,_,m5⟩:=run_append_own_at (P:=c.P) w base T ty e i zv τ.size b k1 k3 k6 k4 k5 hzs OO v n l wU ⟨bk,o',none⟩ ys.length cap news hlen (λ j u hj=>by rw[b3j];exact h8 j u hj) (gL.wi h7) ON S1.1 a4W;exact⟨v',w',news,m1,m2,m3,m5,h7,S1.2⟩
theorem Ur{ev:Operand->AV}(dx:∀ x,VR c G lk w (ev x) (a.eval x)){d l:Int}{lo:Option Operand}(h:ur d (lo.map ev)=some l):(lo=none/\l=d)\/∃ k,lo.map a.eval=some (.int k l):=by
 cases lo with
 | none =>
  simp only[b3L,ur,b0L] at h;exact .inl ⟨rfl,h.symm⟩
 | some x =>
  simp only[b3A,ur] at h;split at h
  .rename_i hn;cases hn
  .rename_i k n hn;simp only[b0L] at h hn;subst h;have hx:=dx x;rw[hn] at hx;obtain⟨hx,_⟩:=hx;simp only[b0T,b1b] at hx;exact .inr ⟨k,by simp[hx]⟩
  .cases h
theorem R5{ev:Operand->AV}(dx:∀ x,VR c G lk w (ev x) (a.eval x)){l h:Int}{len cap:Nat}{lo hi:Option Operand}(sl:Bool)(hl:ur 0 (lo.map ev)=some l)(hh:ur (len:Int) (hi.map ev)=some h)
  (hc:cM l h len) (K1:len<=cap) (P:Program) (w':World):(Instr.sliceBounds sl len cap (lo.map a.eval) (hi.map a.eval) none).run P w' = .ok (l.toNat,h.toNat,cap) w':=by
 obtain⟨h0,h1,h2⟩:=hc;have e1:(h.toNat:Int)=h:=Int.toNat_of_nonneg (by omega);rcases Ur dx hl with ⟨rfl,rfl⟩|⟨k,hk⟩<;>rcases Ur dx hh with ⟨rfl,rfl⟩|⟨k',qp⟩
 .simp[Instr.sliceBounds]
 .simp[Instr.sliceBounds,qp,b4t,show 0<=h from by omega,show h<=(cap:Int) from by omega]
 .simp[Instr.sliceBounds,hk,b4t,h0,h1]
 .simp[Instr.sliceBounds,hk,qp,b4t,h0,h1,show 0<=h from by omega,show h<=(cap:Int) from by omega,e1]
theorem Sn{n m:Int}{b:Nat}(h:ca n m b):0<=n/\n<=m/\m<=140737488355328/\(b:Int) * m<=140737488355328:=by
 obtain⟨h1,h2,h3⟩:=h;have e:m * ((b:Int)+1)=m * b+m:=by rw[Int.mul_add,Int.mul_one]
 have p:0<=m * (b:Int):=Int.mul_nonneg (by omega) (by omega);have q:(b:Int) * m=m * b:=Int.mul_comm _ _;exact⟨h1,h2,by omega,by omega⟩
theorem a3E(hE:bU c.P c.E){T:TypeId}{τ:Ty}{b e:Nat}(hT:ah c.E.ty T=some (.slice τ,b,e)){n m:Int}(h:ca n m b)(w:World)
  (cI:∀ w',bV (λ _=>False) w w'->∀ b,G.S b->w'.heap[b]?=w.heap[b]?) :
  ∃ cap cs,(Instr.makeSlice T (.int .i64 n) (.int .i64 m)).run c.P w = .ok (.slice (some ⟨w.heap.size,0,none⟩) n.toNat cap) (w.alloc (.cells cs e)) /\
   a2i c G lk (w.alloc (.cells cs e)) (.slice (some ⟨w.heap.size,0,none⟩) n.toNat cap) (.row e τ (List.replicate n.toNat τ.zero)):=by
 obtain⟨v1,v2,v3,v4⟩:=Sn h;obtain⟨h1,_,i,z,h3,h4,h5,h6,h7⟩:=hE.slice hT;have hzr:=P9 (w:=w) (S:=G.S) h7;have hzl:=Rd.length _ hzr;rw[Ty.dn,b1S] at hzl;have hr:=run_make (P:=c.P) w T e i z h1 h3 h6 .i64 .i64 n m v1 v2 (by rw[h5];omega) (by omega);refine⟨m.toNat,madeCells z.cells (m.toNat * i.size),hr,(madeCells z.cells (n.toNat * z.cells.size)).toList,?_,?_,by simp;omega⟩
 .refine⟨by simp[madeCells,hzl], .inr ⟨w.heap.size,m.toNat,madeCells z.cells (m.toNat * i.size),by simp,b2b _,b3S w _,by simp;omega,by simp only[maxLen];omega,by simp[size_madeCells,h4],?_⟩⟩;rw[h4,hzl,List.length_replicate];exact GG _ _ _ (b2P _ (by omega))
 .rw[b4G];exact gL.bd (λ _ h=>h) (cI _ (jY w _)) _ (Lg hzr n.toNat)
theorem bU.map(hE:bU c.P c.E){T:TypeId}{κ ε:Ty}(h:ah c.E.mty T=some (κ,ε))(w:World) :
  ∃ kT eT,c.P.underlying T=some (.map kT eT)/\c.P.underlying kT=some (descOf κ)/\κ.key=true/\ε.key=true/\∃ z,(zeroValue eT).run c.P w = .ok z w/\yJ ε ε.zero z:=by
 have:=hE.mty T κ ε h;unfold Vw at this;split at this
 .rename_i k e hu;split at this
  .rename_i κ' r ε' r' hk he;simp only[b0R,b0N] at this;obtain⟨rfl,rfl,h3,h4⟩:=this;obtain⟨i,z,k1,k2,k3,k4⟩:=(hE.info he).ex;have hz:=P9 (w:=w) (S:=λ _=>False) k4;refine⟨k,e,hu,?_,h3,h4,z,by simp[zeroValue,typeInfo,k1,k3],?_⟩
   .obtain⟨b,e'⟩:=r;cases κ' with
    | int q=>exact hE.int hk
    | bool=>exact hE.bool hk
    | str=>exact hE.str hk
    | _=>cases h3
   .have hc:z.cells.toList=[z]:=by
     cases ε'<;>cases z<;>first|rfl|(cases h4;done)|(simp[Cr,AU] at k4;done)
    rw[hc] at hz;exact yJ.of h4 hz
  .cases this
 .cases this
theorem MZ(hE:bU c.P c.E)(hI:bH c G sl n lk a w){lk':Nat->Option aG}(cY:∀ id o,lk' id=some o->lk id=some o){ev:Operand->AV}(dx:∀ x,VR c G lk w (ev x) (a.eval x))
  {o:Oper} {vc:Vc} {v:AV} {ob:Option aG} (hq:MY c.E lk' ev o=some (vc,v,ob)) (fZ:vc.ok) {Q:Exit->Act->World->Prop} :
  o.wp c.P a w (Bg c G sl n lk o.dst a w v ob) Q:=by
 unfold MY at hq;split at hq;case h_1 x bL =>
  simp only[b0L,b0O] at hq;obtain⟨rfl,rfl,rfl⟩:=hq;exact cZ hI (by simp[execOp,bL]) (dx x)
 case h_2 x bL =>
  simp only[b0L,b0O] at hq;obtain⟨rfl,rfl,rfl⟩:=hq;exact cZ hI (by simp[execOp,bL]) (dx x)
 case h_3 cc x y bL =>
  split at hq
  .rename_i hc;simp only[b0L,b0O] at hq;obtain⟨rfl,rfl,rfl⟩:=hq;have h1:=dx cc;rw[hc] at h1;have h1:[a.eval cc]=[.bool true]:=h1;simp only[b0T,b1b] at h1;exact cZ hI (by simp[execOp,bL,h1,asBool]) (dx x)
  .rename_i hc;simp only[b0L,b0O] at hq;obtain⟨rfl,rfl,rfl⟩:=hq;have h1:=dx cc;rw[hc] at h1;have h1:[a.eval cc]=[.bool false]:=h1;simp only[b0T,b1b] at h1;exact cZ hI (by simp[execOp,bL,h1,asBool]) (dx y)
  .cases hq
 case h_4 T bL =>
  split at hq
  .rename_i d τ r hd hT;simp only[b0L,b0O] at hq;obtain⟨rfl,rfl,rfl⟩:=hq;obtain⟨i,z,h1,h2,h3,h4⟩:=(hE.info hT).ex;refine DK hI (x := .pointer (some ⟨w.heap.size,0,none⟩)) (w':=w.alloc (.cells z.cells T)) ?_ (hI.alloc _) ⟨d,hd,rfl⟩ ?_ ?_
   .simp[execOp,bL,Instr.alloc,zeroValue,typeInfo,h1,h3,newVar,newRow]
   .exact⟨_,z.cells.toList,T,rfl,by simpa using heap_alloc_new w _,pK h4⟩
   .intro b hb;simp only[gi,b0L] at hb;subst hb;simp
  .cases hq
 case h_5 T x bL =>
  split at hq
  .rename_i d τ r hd hT;split at hq
   .split at hq
    .rename_i y hy;simp only[b0L,b0O] at hq;obtain⟨rfl,rfl,rfl⟩:=hq;have tm:=gM.cells (NF (c:=c) (G:=G) (lk:=lk) hy (dx x));have hk:=jY w (.cells (a.eval x).cells T);have dh:(w.alloc (.cells (a.eval x).cells T)).heap.size=w.heap.size+1:=by simp
     have A5:=hI.grow (S':=λ b=>G.S b\/b=w.heap.size) hk (λ b hb=>⟨λ h=>h.elim id λ e=>by omega, .inl⟩) (λ b hb=>by
      rcases hb with hb|hb
      .have:=hI.eV b hb;omega
      .omega)
     have c9:(execOp a.eval o).run c.P w = .ok (.value (.pointer (some ⟨w.heap.size,0,none⟩))) (w.alloc (.cells (a.eval x).cells T)):=by
      simp[execOp,bL,Instr.box,newVar,newRow]
     unfold Oper.wp;rw[c9];refine⟨_,_,rfl,A5,?_⟩;refine⟨w.heap.size,0,(a.eval x).cells.toList,rfl, .inl (.inr rfl),?_,Rd.bd (λ _ h => .inl h) (λ b hb=>hk.block b (hI.eV b hb) λ h=>h) _ tm⟩;have:=heap_alloc_new w (.cells (a.eval x).cells T);exact HO (p:=[]) (c:=(a.eval x).cells.toList) (r:=[]) (by simpa using this)
    .cases hq
   .split at hq
    .rename_i cs oR;simp only[b0L,b0O] at hq;obtain⟨rfl,rfl,rfl⟩:=hq;obtain⟨h1,_,_⟩:=Cy oR (dx x);refine DK hI (x := .pointer (some ⟨w.heap.size,0,none⟩)) (w':=w.alloc (.cells (a.eval x).cells T)) ?_ (hI.alloc _) ⟨d,hd,rfl⟩ ?_ ?_
     .simp[execOp,bL,Instr.box,newVar,newRow]
     .exact⟨_,(a.eval x).cells.toList,T,rfl,by simpa using heap_alloc_new w _,h1.imp λ u y _ hy=>hI.a7W (jY w _) hy⟩
     .intro b hb;simp only[gi,b0L] at hb;subst hb;simp
    .cases hq
  .cases hq
 case h_6 T parts bL =>
  split at hq
  .rename_i s r hT;split at hq
   .rename_i cs oR;simp only[b0L,b0O] at hq;obtain⟨rfl,rfl,rfl⟩:=hq;obtain⟨i,z,h1,h2,h3,h4⟩:=(hE.info hT).ex;obtain⟨fs,h5,h6,h7⟩:=hE.st hT;have hpl:fs.toList.mapM (λ f=>(c.P.info? f.type).map λ i=>(f.offset,i.size))=some (fs.toList.map λ f=>(f.offset,c.P.cellsOf f.type)):=by
     have:∀ l:List Field,(∀ f∈l,∃ i,c.P.info? f.type=some i)->l.mapM (λ f=>(c.P.info? f.type).map λ i=>(f.offset,i.size))=some (l.map λ f=>(f.offset,c.P.cellsOf f.type)):=by
      intro l;induction l with
      | nil=>intro _;rfl
      | cons f l ih =>
       intro hl;obtain⟨i,hi⟩:=hl f (by simp);simp[b3k,hi,ih λ f hf=>hl f (by simp[hf]),Program.cellsOf]
     refine this _ λ f hf=>?_;obtain⟨j,hj,hjf⟩:=List.getElem_of_mem hf;obtain⟨t,b,e,_,k2,_⟩:=h7 j f (by rw[Array.getElem?_eq_getElem (by simpa using hj)];simpa using hjf);obtain⟨i,_,hi,_⟩:=(hE.info k2).ex;exact⟨i,hi⟩
    have a6y:∀ i t,s.jw[i]?=some t->(fs.toList.map λ f=>(f.offset,c.P.cellsOf f.type)).toArray[i]?=some (s.iK i,t.size):=by
     intro i t hi;have bX:i<fs.size:=by have:=(b1K.1 hi).1;omega
     obtain⟨t',b,e,k1,k2,k3⟩:=h7 i fs[i] (b1W bX);rw[hi] at k1;simp only[b0L] at k1;subst k1;obtain⟨i',_,rW,dh,_⟩:=(hE.info k2).ex;simp[bX,k3,Program.cellsOf,rW,dh]
    obtain⟨l',h8,h9⟩:=Lm (c:=c) (G:=G) (lk:=lk) (w:=w) a6y oR (bf.Jz dx _) (pK h4);have hb:c.P.built T ((parts.map λ (i,x)=>(i,a.eval x)).toList)=some l'.toArray:=by
     unfold Program.built;rw[h1,h5];simp only[h3,hpl];rw[<-h8];congr 1;simp
    refine cZ hI (x := .agg l'.toArray) ?_ ⟨l',rfl,h9⟩;simp[execOp,bL,run_build w T _ _ hb]
   .cases hq
  .cases hq
 case h_7 T len parts bL =>
  split at hq
  .rename_i d τ b e hd hT;split at hq
   .rename_i hlen;split at hq
    .rename_i xs pX;simp only[b0R] at hlen;have hl1:=b0P hlen.1;have hl2:=b1r hlen.2;subst hl1;obtain⟨h1,⟨b',e',h2⟩,i,z,h3,h4,h5,h6,h7⟩:=hE.slice hT;have OO:=τ.size_pos;have ON:τ.size<=100:=Ty.size_le τ;have a9r:parts.size * τ.size<=16777216:=b3a (Nat.mul_le_mul hl2 ON) (by decide);obtain⟨r,h8,h9⟩:=KW (c:=c) (G:=G) (lk:=lk) (w:=w) (τ:=τ) (place:=λ i=>some (i * τ.size,τ.size)) (λ _=>rfl) (l:=((Array.range (parts.size * τ.size)).map (λ j=>((if parts.size * τ.size=0 then #[] else z.cells:Array Value)[j % (if parts.size * τ.size=0 then #[] else z.cells:Array Value).size]!))).toList) pX (bf.Jz dx _) (by simp);have xQ:=F8 pX;simp only[b1o,b1S] at xQ;have dh:∀ d∈xs.map τ.bc,d.size=τ.size:=by
      intro d hd;obtain⟨y,_,rfl⟩:=b0S.1 hd;exact Ty.dn τ y
     have hrl:=gL.length _ h9 dh;simp only[b1o,xQ] at hrl;simp only[b3K,b1V,b1F,b1U] at h8;have c9:(execOp a.eval o).run c.P w = .ok (.value (.slice (some ⟨w.heap.size,0,none⟩) parts.size parts.size)) (w.alloc (.cells r.toArray e)):=by
      have e2:(parts.map λ (i,x)=>(i,a.eval x)).toList=parts.toList.map λ p=>(p.1,a.eval p.2):=by simp
      have lH:¬ (parts.size * τ.size>2 ^ 24):=by omega
      simp only[execOp,bL,Instr.buildSlice,b1u,b1Q h1,b1j,hE.sizeOf h2,b0Y lH,b1w];by_cases h0:parts.size * τ.size=0
      .simp only[h0,b2D,b1u,b1w,b1j,e2] at h8 ⊢;rw[h8];simp[newRow]
      .simp only[h0,b3I,b1u,zeroValue,typeInfo,run_program,b1j,h3,h6,b1w,e2] at h8 ⊢;rw[h8];simp[newRow]
     have ho:(w.alloc (.cells r.toArray e)).ownsRow 0 e τ.size (.slice (some ⟨w.heap.size,0,none⟩) parts.size parts.size) xs.length r:=by
      rw[xQ];have:=World.ownsRow_lit (base:=0) (e:=e) (size:=τ.size) w r.toArray parts.size (Nat.zero_le _) (by simp only[maxLen];omega) (by simpa using hrl);simpa using this
     have tm:=gL.bd (λ _ h=>h) (λ b hb=>hI.Zr (jY w (.cells r.toArray e)) b (.inl hb)) _ h9;have mh:∀ b,gi (.slice (some ⟨w.heap.size,0,none⟩) parts.size parts.size)=some b->w.heap.size<=b/\b<(w.alloc (.cells r.toArray e)).heap.size:=by
      intro b hb;simp only[gi,b0L] at hb;subst hb;simp
     split at hq
     .simp only[b0L,b0O] at hq;obtain⟨rfl,rfl,rfl⟩:=hq;exact a3q hI c9 (jY w _) ho tm (by omega) mh
     .simp only[b0L,b0O] at hq;obtain⟨rfl,rfl,rfl⟩:=hq;exact DK hI c9 (hI.alloc _) ⟨d,hd,rfl⟩ ⟨r,ho,tm,by omega⟩ mh
    .cases hq
   .cases hq
  .cases hq
 case h_8 T ad bL =>
  split at hq
  .rename_i τ r hT;split at hq
   .rename_i u hu;simp only[b0L,b0O] at hq;obtain⟨rfl,rfl,rfl⟩:=hq;obtain⟨b,o',cs,h1,h2,h3,h4⟩:=uP hI.aR cY hu (dx ad);refine cZ hI ?_ h4;simp only[execOp,bL,h1,b1u,qT hE hT h2 h3,b1j,b1w]
   .cases hq
  .cases hq
 case h_9 x bL =>
  have key:∀ u,ev x=u->(∃ b o,a.eval x = .pointer (some ⟨b,o,none⟩))->vc = .none->v=u->ob=none->o.wp c.P a w (Bg c G sl n lk o.dst a w v ob) Q:=by
   rintro u hu ⟨b,o',hx⟩ _ rfl rfl;refine cZ hI (x:=a.eval x) ?_ (hu ▸ dx x);simp only[execOp,bL,hx,b1w]
  have hx:=dx x;split at hq
  .rename_i u hu;simp only[b0L,b0O] at hq;rw[hu] at hx;obtain⟨b,o',cs,h1,_⟩:=hx;exact key _ hu ⟨b,o',h1⟩ hq.1.symm hq.2.1.symm hq.2.2.symm
  .rename_i id off hu;simp only[b0L,b0O] at hq;rw[hu] at hx;obtain⟨b,_,h1,_⟩:=hx;exact key _ hu ⟨b,off,h1⟩ hq.1.symm hq.2.1.symm hq.2.2.symm
  .rename_i id i off hu;simp only[b0L,b0O] at hq;rw[hu] at hx;obtain⟨b,_,_,_,_,_,_,_,_,h1⟩:=hx;exact key _ hu ⟨b,_,h1⟩ hq.1.symm hq.2.1.symm hq.2.2.symm
  .cases hq
 case h_10 T x i bL =>
  split at hq
  .rename_i s r hT;have hx:=dx x;split at hq
   .rename_i u hu;rw[hu] at hx;split at hq
    .rename_i y hy;have e:=TV.bj hy;subst e;split at hq
     .rename_i f hf;simp only[b0L,b0O] at hq;obtain⟨rfl,rfl,rfl⟩:=hq;obtain⟨b,o',cs,h1,h2,h3,h4⟩:=hx;have bX:i<s.jw.length:=by
       have:=(b1K.1 hf).1;rw[<-aY.Bz s y,b1o];exact this
      refine cZ hI (x := .pointer (some ⟨b,o'+s.iK i,none⟩)) ?_ ?_
      .simp only[execOp,bL,h1,b1u,pb hE hT bX,b1j,b1w]
      .refine⟨b,o'+s.iK i,(cs.drop (s.iK i)).take f.τ.size,rfl,h2,h3.part _ _,?_⟩;exact HV hf h4
     .cases hq
    .cases hq
   .rename_i id off hu;rw[hu] at hx;split at hq
    .rename_i bX;simp only[Option.some.injEq,Prod.mk.injEq] at hq;obtain⟨rfl,rfl,rfl⟩:=hq;have bX:i<s.jw.length:=by simpa [Nat.blt_eq] using bX
     obtain⟨b,h1,h2,h3⟩:=hx;refine cZ hI (x := .pointer (some ⟨b,off+s.iK i,none⟩)) ?_ ⟨b,h1,rfl,h3⟩;simp only[execOp,bL,h2,b1u,pb hE hT bX,b1j,b1w]
    .cases hq
   .rename_i id k off hu;rw[hu] at hx;split at hq
    .rename_i bX;simp only[Option.some.injEq,Prod.mk.injEq] at hq;obtain⟨rfl,rfl,rfl⟩:=hq;have bX:i<s.jw.length:=by simpa [Nat.blt_eq] using bX
     obtain⟨b,m,cap,e,τ,xs,h1,h2,h3,h4⟩:=hx;refine cZ hI (x := .pointer (some ⟨b,k * τ.size+(off+s.iK i),none⟩)) ?_ ⟨b,m,cap,e,τ,xs,h1,h2,h3,rfl⟩;simp only[execOp,bL,h4,b1u,pb hE hT bX,b1j,b1w,b3H]
    .cases hq
   .cases hq
  .cases hq
 case h_11 T x i bL =>
  split at hq
  .rename_i s r hT;have hx:=dx x;split at hq
   .rename_i u hu;rw[hu] at hx;split at hq
    .rename_i y hy;have e:=TV.bj hy;subst e;split at hq
     .rename_i f hf;simp only[b0L,b0O] at hq;obtain⟨rfl,rfl,rfl⟩:=hq;obtain⟨cs,h1,h2⟩:=hx;have hty:s.jw[i]?=some f.τ:=by rw[<-aY.Bz s y,b2F,hf];rfl
      obtain⟨h3,h4⟩:=Z0 hf h2;refine cZ hI (x:=Km f.τ ((cs.drop (s.iK i)).take f.τ.size)) ?_ (gM.mk_ (HV hf h2));simp only[execOp,bL,h1,b1u,V9 hE hT hty h3,b1j,b1w]
     .cases hq
    .cases hq
   .rename_i cs hu;rw[hu] at hx;split at hq
    .rename_i τ nH;split at hq
     .rename_i u hg;simp only[b0L,b0O] at hq;obtain⟨rfl,rfl,rfl⟩:=hq;obtain⟨l,h1,h2⟩:=hx;obtain⟨h3,h4,h5⟩:=H2 h2 hg;refine cZ hI (x:=Km τ ((l.drop (s.iK i)).take τ.size)) ?_ h3;simp only[execOp,bL,h1,b1u,V9 hE hT nH h5,b1j,b1w]
     .cases hq
    .cases hq
   .cases hq
  .cases hq
 case h_12 T x ix bL =>
  split at hq
  .rename_i τ r hT;split at hq
   .rename_i k i hi;have xO:=dx ix;rw[hi] at xO;obtain⟨xO,_⟩:=xO;simp only[b0T,b1b] at xO;have hx:=dx x;split at hq
    .rename_i u hu;rw[hu] at hx;split at hq
     .rename_i xs pX;have e:=TV.bj pX;subst e;simp only[b0L,b0O] at hq;obtain⟨rfl,rfl,rfl⟩:=hq;obtain⟨h0,h1⟩:=fZ;obtain⟨ad,cap,h2,h3,h4,h5⟩:=oJ hx;rcases h5 with h5|⟨b,o',h5,h6,h7⟩
      .subst h5;simp only[b1n] at h1;omega
      .subst h5;have bX:i.toNat<xs.length:=by omega
       obtain⟨cs,m1,m2,m3⟩:=eH.at_ (n:=τ.size) _ b o' h7 (by
        intro d hd;obtain⟨y,_,rfl⟩:=b0S.1 hd;exact Ty.dn τ y) i.toNat (τ.bc (xs.getD i.toNat τ.zero)) (by simp[List.getD,bX])
       refine cZ hI (x := .pointer (some ⟨b,o'+i.toNat * τ.size,none⟩)) ?_ ⟨b,_,cs,rfl, .inl h6,m3,m2⟩;simp only[execOp,bL,h2,xO,b1u,vk hE hT h0 h1,b1j,b1w]
     .cases hq
    .rename_i id hu;rw[hu] at hx;split at hq
     .rename_i e' bw xs hl;split at hq
      .rename_i nH;have nH:=b1z nH;subst nH;simp only[b0L,b0O] at hq;obtain⟨rfl,rfl,rfl⟩:=hq;obtain⟨h0,h1⟩:=fZ;obtain⟨h2,_,_⟩:=hx;have so:=cY _ _ hl;obtain⟨l,m1,_,_⟩:=hI.aR _ _ so;have bX:i.toNat<xs.length:=by omega
       rcases m1.2 with ⟨_,hn⟩|⟨g,cap,cur,hv,_⟩
       .omega
       .refine cZ hI (x := .pointer (some ⟨g,0+i.toNat * bw.size,none⟩)) ?_ ⟨g,_,cap,e',bw,xs,hv,so,bX,by simp⟩;simp only[execOp,bL,h2,hv,xO,b1u,vk hE hT h0 h1,b1j,b1w]
      .cases hq
     .cases hq
    .cases hq
   .cases hq
  .cases hq
 case h_13 T x ix bL =>
  split at hq
  .rename_i r hT;split at hq
   .rename_i k i hi;have xO:=dx ix;rw[hi] at xO;obtain⟨xO,_⟩:=xO;simp only[b0T,b1b] at xO;have hx:=dx x;split at hq
    .rename_i xs hu;rw[hu] at hx;simp only[Option.some.injEq,Prod.mk.injEq] at hq;obtain⟨rfl,rfl,rfl⟩:=hq;obtain⟨s,h1,h2,h3⟩:=hx;simp only[List.cons.injEq,and_true] at h1;subst h2;have dh:s.data.toList.length=s.size:=Array.length_toList;have fZ:aC i s.data.toList.length:=fZ;unfold aC at fZ;rw[dh] at fZ;have bX:Int.toNat i<s.size:=by omega
     have he:s.data.toList.getD (Int.toNat i) 0=s[Int.toNat i]'bX:=by
      have h5:Int.toNat i<s.data.size:=bX;rw[List.getD_eq_getElem?_getD,List.getElem?_eq_getElem (by simpa using h5)];rfl
     have hr:(execOp a.eval o).run c.P w = .ok (.value (.int .u8 (s[Int.toNat i]'bX).toNat)) w:=by
      simp only[execOp,bL,h1,xO,b1u,run_index_string w T s k i (hE.str hT)];rw[dif_pos fZ];rfl
     refine cZ hI hr ⟨by rw[he],?_⟩;have:=(s.data.toList.getD (Int.toNat i) 0).toNat_lt;exact⟨Int.natCast_nonneg _,by simp only[IntKind.max,IntKind.signed,IntKind.bits,b0V,b3I];omega⟩
    .cases hq
   .cases hq
  .cases hq
 case h_14 op T x y yt bL =>
  split at hq
  .rename_i p u hu;simp only[b0L,b0O] at hq;obtain⟨rfl,rfl,rfl⟩:=hq;obtain⟨z,h1,h2⟩:=a0s hE x y hu fZ (dx x) (dx y);refine cZ hI ?_ h2;simp only[execOp,bL];rw[b1u,h1];rfl
  .split at hq
   .rename_i p u hu;simp only[b0L,b0O] at hq;obtain⟨rfl,rfl,rfl⟩:=hq;obtain⟨z,h1,h2⟩:=a1f hE x y hu fZ (dx x) (dx y);refine cZ hI ?_ h2;simp only[execOp,bL];rw[b1u,h1];rfl
   .cases hq
 case h_15 op xt x bL =>
  split at hq
  .rename_i b hb;simp only[b0L,b0O] at hq;obtain⟨rfl,rfl,rfl⟩:=hq;have hx:=dx x;rw[hb] at hx;have hx:[a.eval x]=[.bool b]:=hx;simp only[b0T,b1b] at hx;exact cZ hI (x := .bool !b) (by simp[execOp,bL,hx,Op.unary]) rfl
  .rename_i k i hb;simp only[b0L,b0O] at hq;obtain⟨rfl,rfl,rfl⟩:=hq;have hx:=dx x;rw[hb] at hx;obtain⟨hx,_⟩:=hx;simp only[b0T,b1b] at hx;have hr:=gI fZ;have h0:(0:Int) - i = -i:=Int.zero_sub _;exact cZ hI (x := .int k (-i)) (by simp[execOp,bL,hx,Op.unary,Op.intArith,h0,xG hr]) ⟨rfl,hr⟩
  .cases hq
 case h_16 src dst x bL =>
  split at hq
  .rename_i k1 r1 k2 r2 hs hd;split at hq
   .rename_i k3 i DY;simp only[b0L,b0O] at hq;obtain⟨rfl,rfl,rfl⟩:=hq;have hx:=dx x;rw[DY] at hx;obtain⟨hx,_⟩:=hx;simp only[b0T,b1b] at hx;have hr:=gI fZ;refine cZ hI (x := .int k2 i) ?_ ⟨rfl,hr⟩;simp[execOp,bL,hx,convert,b1Q (hE.int hs),b1Q (hE.int hd),Conv.intToInt,xG hr]
   .cases hq
  .cases hq
 case h_18 t i bL =>
  split at hq
  .rename_i vs ht;split at hq
   .rename_i u hu;simp only[b0L,b0O] at hq;obtain⟨rfl,rfl,rfl⟩:=hq;have hx:=dx t;rw[ht] at hx;obtain⟨l,h1,h2⟩:=hx;obtain⟨z,h3,h4⟩:=h2.at_ i u hu;refine cZ hI (x:=z) ?_ ?_
    .simp[execOp,bL,Instr.extract,h1,h3]
    .cases u<;>first|exact h4|exact h4.elim|trivial
   .cases hq
  .cases hq
 case h_19 T l cc bL =>
  split at hq
  .rename_i d τ b e hd hT;split at hq
   .rename_i m m' hm hm';simp only[b0L,b0O] at hq;obtain⟨rfl,rfl,rfl⟩:=hq;have hl:=dx l;have hc:=dx cc;rw[hm] at hl;rw[hm'] at hc;obtain⟨hl,_⟩:=hl;obtain⟨hc,_⟩:=hc;simp only[b0T,b1b] at hl hc;obtain⟨cap,cs,h1,h2⟩:=a3E (c:=c) (G:=G) (lk:=lk) hE hT fZ w (λ w' hk b hb=>hI.Zr hk b (.inl hb));refine DK hI ?_ (hI.alloc _) ⟨d,hd,rfl⟩ h2 ?_
    .simp only[execOp,bL,hl,hc,b1u,h1,b1j,b1w]
    .intro b hb;simp only[gi,b0L] at hb;subst hb;simp
   .cases hq
  .cases hq
 case h_17 T x lo hi mx bL =>
  split at hq
  .rename_i τ r hT;have hx:=dx x;split at hq
   .rename_i u hu;rw[hu] at hx;split at hq
    .rename_i xs pX;have e:=TV.bj pX;subst e;split at hq
     .rename_i l h hl hh;simp only[b0L,b0O] at hq;obtain⟨rfl,rfl,rfl⟩:=hq;obtain⟨ad,cap,h2,h3,h4,h5⟩:=oJ hx;obtain⟨k1,⟨b',e',k2⟩,_⟩:=hE.slice hT;have hb:=R5 dx true hl hh fZ h3 c.P w;obtain⟨v0,v1,v2⟩:=fZ;have c9:(execOp a.eval o).run c.P w = .ok (.value (.slice (if cap=l.toNat then ad else ad.map (·.add (l.toNat * τ.size))) (h.toNat - l.toNat) (cap - l.toNat))) w:=by
       simp only[execOp,bL,h2,Instr.sliceAt,b1u,b1Q k1,b1j,Instr.slice,b3L,hb,hE.sizeOf k2,b1w]
      refine cZ hI c9 ?_;have hlen:((xs.take h.toNat).drop l.toNat).length=h.toNat - l.toNat:=by
       rw[b1Y,b1C];omega
      refine a3U hlen (by omega) ?_ (by omega) ?_
      .have:=hx;obtain⟨ad',Xn,m1,m2,m3,_⟩:=this;rw[h2] at m1;simp only[b0T,b2w,b1b] at m1;obtain⟨_,_,rfl⟩:=m1;omega
      .rcases b1R l.toNat h.toNat with bX|YT
       .right;rcases h5 with h5|⟨b,o',rfl,h6,h7⟩
        .subst h5;simp only[b1n] at v2;omega
        .refine⟨b,o'+l.toNat * τ.size,?_,h6,?_⟩
         .rw[b0Y (by omega)];simp[b3j]
         .rw[List.map_drop,List.map_take];refine eH.a4O _ _ _ _ (eH.a5U _ _ _ _ h7) ?_;intro d hd;obtain⟨y,_,rfl⟩:=b0S.1 (List.mem_of_mem_take hd);exact Ty.dn τ y
       .left;exact b1X (by omega)
     .cases hq
    .cases hq
   .cases hq
  .rename_i r hT;have hx:=dx x;split at hq
   .rename_i xs hu;rw[hu] at hx;split at hq
    .rename_i l h hl hh;simp only[b0L,b0O] at hq;obtain⟨rfl,rfl,rfl⟩:=hq;obtain⟨s,h1,h2,h3⟩:=hx;simp only[b0T,b1b] at h1;subst h2;have dh:s.data.toList.length=s.size:=b1S;rw[dh] at fZ hh;have hb:=R5 dx false hl hh fZ (b1E _) c.P w;obtain⟨v0,v1,v2⟩:=fZ;refine cZ hI (x := .string (s.extract l.toNat h.toNat)) ?_ ⟨_,rfl,?_,?_⟩
     .have lH:¬ ((none:Option Value).isSome=true):=by simp
      simp only[execOp,bL,h1,Instr.sliceAt,b1u,b1Q (hE.str hT),b1j,Instr.slice,b3L,b0Y lH,hb,b1w]
     .rw[Lib.extract_data,List.drop_take]
     .have:(s.extract l.toNat h.toNat).size<=s.size:=by
       rw[ByteArray.size_extract];omega
      omega
    .cases hq
   .cases hq
  .cases hq
 case h_20 cl bL =>
  have eU:=bf.tg dx cl.args.toList;split at hq
  .rename_i kR;split at hq
   .rename_i T v1 YL CJ;rw[CJ] at eU;match pX:cl.args.toList.map a.eval,eU with
    | [x],eU =>
     have hx:=eU.1;have OB:cl.argTypes = #[T]:=by rw[<-b1U (xs:=cl.argTypes),YL]
     have Ii:cl.args.map a.eval = #[x]:=by rw[<-b1U (xs:=cl.args.map a.eval),b2K,pX]
     have U3:(execOp a.eval o)=(do let d <-resolve a.eval cl o.type;invoke d.target d.args):=by simp[execOp,bL]
     have Sf:(execOp a.eval o).run c.P w=((Builtin.len_ #[T] o.type #[x]).run c.P w).andThen λ v w => .ok (.value v) w:=by
      rw[U3];simp[resolve,kR,invoke,builtin,OB,Ii]
     split at hq
     .rename_i t r hT;obtain⟨k1,_,_⟩:=hE.slice hT;have hel:c.P.elem T=r.2:=by simp[Program.elem,k1]
      have c9:∀ ad len cap,x = .slice ad len cap->(execOp a.eval o).run c.P w = .ok (.value (.int .i64 len)) w:=by
       intro ad len cap hxx;rw[Sf,hxx,run_len_slice w T o.type ad len cap (by rw[hel];exact k1)];rfl
      have gT:∀ m:Nat,m<=140737488355328->IntKind.i64.min<=(m:Int)/\(m:Int)<=IntKind.i64.max:=λ m hm=>gI (k := .i64) ⟨by omega,by omega⟩;split at hq
      .simp only[b0L,b0O] at hq;obtain⟨rfl,rfl,rfl⟩:=hq;exact cZ hI (c9 _ _ _ hx) ⟨rfl,gT 0 (by omega)⟩
      .rename_i t' xs;simp only[b0L,b0O] at hq;obtain⟨rfl,rfl,rfl⟩:=hq;obtain⟨ad,cap,h2,h3,h4,h5⟩:=oJ hx;exact cZ hI (c9 _ _ _ h2) ⟨rfl,gT _ h4⟩
      .rename_i id;split at hq
       .rename_i e' bw xs hl;simp only[b0L,b0O] at hq;obtain⟨rfl,rfl,rfl⟩:=hq;obtain⟨h2,_,_⟩:=hx;have so:=cY _ _ hl;obtain⟨ad,cap,h3,_,h4,_⟩:=oJ (t:=bw) (a2Y (hI.aR _ _ so) so);exact cZ hI (c9 _ _ _ (h2.trans h3)) ⟨rfl,gT _ h4⟩
       .cases hq
      .cases hq
     .rename_i r hT;split at hq
      .rename_i xs;simp only[b0L,b0O] at hq;obtain⟨rfl,rfl,rfl⟩:=hq;obtain⟨s,h1,h2,h3⟩:=hx;simp only[b0T,b1b] at h1;subst h2;have dh:s.data.toList.length=s.size:=b1S;have gT:cb .i64 (s.size:Int):=⟨by omega,by omega⟩;refine cZ hI (x := .int .i64 s.size) ?_ ⟨by rw[dh],by rw[dh];exact gI gT⟩;rw[Sf,h1,run_len_string w T o.type s (hE.str hT)];rfl
      .cases hq
     .rename_i hT;split at hq
      .cases hq
      .cases hq
     .cases hq
   .cases hq
  .rename_i kR;split at hq
   .rename_i d T T' hd YL;split at hq
    .rename_i τ b e UW hT;split at hq
     .rename_i y CJ;split at hq
      .rename_i ys QE;simp only[b0L,b0O] at hq;obtain⟨rfl,rfl,rfl⟩:=hq;have UW:=b0P UW;subst UW;rw[CJ] at eU;match pX:cl.args.toList.map a.eval,eU with
       | [x,z],eU =>
        obtain⟨hx,hz,_⟩:=eU;have hx:x = .slice none 0 0:=hx;subst hx;have OB:cl.argTypes = #[T,T]:=by rw[<-b1U (xs:=cl.argTypes),YL]
        have Ii:cl.args.map a.eval = #[.slice none 0 0,z]:=by rw[<-b1U (xs:=cl.args.map a.eval),b2K,pX]
        have Sf:(execOp a.eval o).run c.P w=((Builtin.append_ #[T,T] o.type #[.slice none 0 0,z]).run c.P w).andThen λ v w => .ok (.value v) w:=by
         simp[execOp,bL,resolve,kR,invoke,builtin,OB,Ii]
        have hzc:C1 c G lk w y z:=by
         refine hz.Yf ?_;cases y with
         | aT u =>
          have e:=TV.bj QE;subst e;rfl
         | nil=>rfl
         | row i=>rfl
         | aD i=>rfl
         | _=>cases QE
        have tm:=a2l hI.aR (IJ cY) a0t QE hzc;obtain⟨v',w',news,m1,m2,m3,m4,m5,m6⟩:=R1 (w:=w) (base:=w.heap.size) hE hT (World.ownsRow_nil w _ e τ.size) (Nat.le_refl _) tm (n:=0) (by rw[Nat.zero_add];exact fZ) o.type;have hk:bV (λ _=>False) w w':=⟨m3.os,m3.tape,m3.output,m3.size,λ b hb _=>m3.block b hb (by simp[Value.ownBlock])⟩;simp only[Nat.zero_add,List.nil_append] at m2;refine DK hI (x:=v') (w':=w') ?_ (hI.grow (S':=G.S) hk (λ _ _=>Iff.rfl) (λ b hb=>Nat.lt_of_lt_of_le (hI.eV b hb) hk.size)) ⟨d,hd,rfl⟩ ⟨news,?_,?_,by simpa using m6⟩ ?_
        .rw[Sf,m1];rfl
        .exact⟨m2.1,m2.2.imp id λ ⟨g,cap,cur,q1,q2,q3⟩=>⟨g,cap,cur,q1,b2b _,q3⟩⟩
        .exact gL.bd (λ _ h=>h) (λ b hb=>hI.Zr hk b (.inl hb)) _ m5
        .intro b hb;have SZ:=(wj (w:=w') (v:=v') (e:=e) ⟨m2.1,m2.2.imp id λ ⟨g,cap,cur,q1,q2,q3⟩=>⟨g,cap,cur,q1,b2b _,q3⟩⟩);have cO:v'.ownBlock=some b:=SZ.trans hb;exact m2.lt b cO
      .cases hq
     .cases hq
    .cases hq
   .cases hq
  .rename_i kR;split at hq
   .rename_i k m k' n CJ;split at hq
    .rename_i hk;have hk:=b1z hk;subst hk;simp only[b0L,b0O] at hq;obtain⟨rfl,rfl,rfl⟩:=hq;rw[CJ] at eU;match pX:cl.args.toList.map a.eval,eU with
     | [x,z],eU =>
      obtain⟨⟨hx,hx2⟩,⟨hz,hz2⟩,_⟩:=eU;simp only[b0T,b1b] at hx hz;subst hx hz;have Ii:cl.args.map a.eval = #[.int k' m, .int k' n]:=by rw[<-b1U (xs:=cl.args.map a.eval),b2K,pX]
      refine cZ hI (x := .int k' (max m n)) ?_ ⟨rfl,?_⟩
      .have hm:=a6C m n;simp[execOp,bL,resolve,kR,invoke,builtin,Ii,Builtin.max_,Builtin.max2];exact hm
      .exact a6D _ _ _ _ hx2 hz2
    .cases hq
   .cases hq
  .rename_i f kR;exact R7 hE hI cY hq fZ eU (λ rV=>lp bL kR rfl rV)
  .rename_i t kR;split at hq
   .rename_i f hf;have hx:=dx (.tmp t);rw[hf] at hx;exact R7 hE hI cY hq fZ eU (λ rV=>lp bL kR hx rV)
   .rename_i f cs hf;have hx:=dx (.tmp t);rw[hf] at hx;exact HM hE hI cY hq fZ eU bL kR hx
   .rename_i v hf;have hx:=dx (.tmp t);rw[hf] at hx;exact HM hE hI cY hq fZ eU bL kR hx
   .cases hq
  .cases hq
 case h_21 T bL =>
  cases hq
 case h_22 T x ix ok bL=>cases hq
 case h_23 fn first captured bL =>
  split at hq
  .rename_i f a6t K1;have oR:=bf.tg dx captured.toList;have c9:(execOp a.eval o).run c.P w = .ok (.value (.func (.func f) #[] (captured.toList.map a.eval).toArray)) w:=by
    have hf:first = #[]:=by rw[<-b1U (xs:=first),a6t]
    simp[execOp,bL,Instr.makeFunc,hf];apply b4w;simp
   split at hq
   .rename_i zR;simp only[b0L,b0O] at hq;obtain⟨rfl,rfl,rfl⟩:=hq;rw[zR] at oR;match hl:captured.toList.map a.eval,oR with
    | [],_ =>
     rw[hl] at c9;exact cZ hI c9 rfl
   .simp only[b0L,b0O] at hq;obtain⟨rfl,rfl,rfl⟩:=hq;exact cZ hI c9 ⟨_,rfl,oR.imp λ u y hu hy=>hy.a0O (b1L.1 K1 u hu)⟩
  .cases hq
 case h_24=>cases hq
end
end Go.Proofs.YtmjfpcajohhbeaaGreatDoor

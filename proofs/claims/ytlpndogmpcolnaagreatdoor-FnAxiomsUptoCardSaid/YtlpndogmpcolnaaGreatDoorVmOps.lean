/- VmTypes, VmCore, VmRead, VmOwn, VmMap, VmInv, VmEnv, VmVals, VmRuns, VmMake, VmOps. -/
import Derived.KernelRfl
import GoSem.Claim
import Derived.Orders
import Derived.Laws.AppendOwn
import Derived.Laws.OwnMore
import Derived.Below
import Derived.MapKept
import Derived.Maps.Keyed
import Derived.WideKeyPair
import Derived.Calls
import Derived.Laws.Cells
import Derived.Laws.Slices
import Derived.Laws.Strings
import Derived.Maps.AppendAt
import Derived.IntWalk
import Derived.Laws.Small
import Derived.Laws.CopyRow
import Derived.Lib.Strings
set_option linter.all false
namespace Go.Proofs.YtlpndogmpcolnaaGreatDoor
def b6Q:=@Option.bind_eq_some_iff
def b5E:=@Option.some.injEq
def b6w:=@List.map_cons
def b7f:=@List.map_nil
def b5J:=@List.cons.injEq
def b5W:=@and_true
def b8z:=@Go.World.cell?_of_block
def b6V:=@Nat.add_mul
def b5Y:=@List.length_append
def b5S:=@List.length_cons
def b6X:=@List.getElem?_append_left
def b6o:=@List.getElem?_eq_some_iff
def b6E:=@Nat.lt_or_ge
def b7Q:=@List.getElem?_append_right
def b8m:=@Nat.add_sub_cancel_left
def b5M:=@Bool.and_eq_true
def b7J:=@List.drop_drop
def b8g:=@List.drop_left
def b9s:=@List.take_append
def b6J:=@List.take_of_length_le
def b8T:=@Nat.zero_mul
def b8h:=@List.drop_zero
def b8a:=@List.take_left
def b7K:=@List.take_zero
def b6B:=@List.nil_append
def b7P:=@Nat.zero_add
def b7k:=@Iff.rfl
def b9H:=@Go.Value.agg.injEq
def b6t:=@true_and
def b6L:=@Nat.zero_le
def b6N:=@List.mem_of_getElem?
def b6F:=@Go.run_underlying
def b8r:=@Go.MapKept.run_getObj_map
def b8L:=@List.getElem?_cons_zero
def b7u:=@List.pairwise_cons
def b9h:=@Array.toList_push
def b8U:=@List.pairwise_append
def b5Z:=@List.mem_singleton
def b5F:=@List.mem_append
def b9i:=@List.ext_getElem?
def b5Q:=@if_pos
def b8k:=@List.getElem_of_mem
def b9t:=@List.getElem_set
def b7a:=@List.getElem_mem
def b6k:=@Nat.le_refl
def b7g:=@Nat.le_trans
def b6a:=@Nat.lt_of_lt_of_le
def b5X:=@List.mem_cons
def b6D:=@Array.getD_eq_getD_getElem?
def b8Y:=@Array.getElem?_setIfInBounds
def b6C:=@Option.map_eq_some_iff
def b5I:=@if_neg
def b7D:=@if_true
def b5G:=@Nat.eq_of_beq_eq_true
def b6n:=@of_decide_eq_true
def b6y:=@List.all_eq_true
def b7p:=@List.replicate_succ
def b9V:=@List.sum_cons
def b8i:=@Go.Addr.add_lit
def b6p:=@Go.Sem.run_bind
def b6q:=@Go.Sem.run_pure
def b6i:=@Go.Result.andThen_ok
def b7W:=@Nat.add_zero
def b5K:=@decide_eq_true_eq
def b6S:=@List.eq_nil_of_length_eq_zero
def b6e:=@List.getElem?_eq_getElem
def b7N:=@Option.some.inj
def b7B:=@List.drop_eq_getElem_cons
def b6R:=@Nat.le_of_ble_eq_true
def b6T:=@List.length_take
def b7e:=@List.length_drop
def b7h:=@List.getElem?_take
def b8d:=@List.getElem?_drop
def b8E:=@Nat.add_assoc
def b5N:=@List.mem_map
def b8l:=@Go.Value.pointer.injEq
def b7G:=@Go.Addr.mk.injEq
def b8K:=@eq_of_heq
def b5R:=@Int.toNat_natCast
def b5H:=@Prod.mk.injEq
def b9W:=@Go.ByteArray.toList_eq
def b8H:=@Bool.eq_iff_iff
def b9j:=@Go.eqGuard_at_string
def b6M:=@Array.length_toList
def b6O:=@Array.getElem?_eq_getElem
def b9I:=@Go.Result.ok.injEq
def b9o:=@Array.ext'
def b5O:=@Bool.false_eq_true
def b8j:=@if_false
def b9O:=@List.getElem?_toArray
def b8F:=@List.take_succ_cons
def c0b:=@Int.natCast_nonneg
def b6v:=@List.append_assoc
def b6d:=@List.length_nil
def b8P:=@List.take_length
def b6K:=@List.append_nil
def b8A:=@List.replicate_succ'
def b7z:=@List.flatMap_cons
def b6G:=@List.length_map
def b7m:=@List.getElem?_map
def b8V:=@Option.map_none
def b8o:=@Option.map_some
def b7O:=@Int.toNat_of_nonneg
def b9P:=@Go.run_sliceBound
def b7L:=@Go.heap_alloc_new
def b7M:=@Nat.mul_le_mul_right
def c0c:=@List.map_replicate
def b9R:=@Go.TypeDesc.array.injEq
def b8u:=@List.mapM_cons
def b6P:=@Array.toArray_toList
def b7A:=@Go.Value.slice.injEq
def b7S:=@Array.toList_map
def c0d:=@Go.MapKept.heap_alloc
def ZV:List Nat:=[0]
inductive D where
 | int (k:IntKind) (n:Int)
 | bool (b:Bool)
 | str (s:List UInt8)
 | slice (n:Nat) (xs:List D)
 | agg (xs:List D)
 | hole
 | ptr
def mvD{α:Type}(n:Nat)(f:α->D):Option (List α)->D
 | none => .hole
 | some l => .slice n (l.map f)
inductive aH where
 | arr2
 | sig
 | expr
 | oExpr
 | word
 | automaton
 | equation
 | reader
 | l00Src
 | l01Reader
 | l01Gen
 | reached
 deriving DecidableEq
inductive Ty where
 | int (k:IntKind)
 | bool
 | str
 | slice (t:Ty)
 | st (s:aH)
 | mv (t:Ty)
 | ptr
 deriving DecidableEq
structure aw where
 a0:Int
 a1:Int
structure aD where
 aY:Int
 aB:Int
structure J where
 aj:Int
 aT:Int
 U:List (J)
structure np where
 aj:Int
 aT:Int
 U:Option (List (J))
structure gB where
 LX:List (Int)
 P2:List (Int)
structure ae where
 sig:aD
 accept:List (List (Bool))
 next:List (List (List (Int)))
structure aE where
 left:J
 right:J
structure lg where
 text:List UInt8
 pos:Int
structure lb where
 O:List (Int)
 pos:Int
 ar:Int
structure fE where
 text:List UInt8
 pos:Int
 aR:Int
 bad:Bool
structure lf where
 s:Unit
 g:aD
 left:Int
structure ah where
 pair:aw
 oM:Int
 atom:Int
 act:Int
@[reducible] def aH.den:aH->Type
 | .arr2=>aw
 | .sig=>aD
 | .expr=>J
 | .oExpr=>np
 | .word=>gB
 | .automaton=>ae
 | .equation=>aE
 | .reader=>lg
 | .l00Src=>lb
 | .l01Reader=>fE
 | .l01Gen=>lf
 | .reached=>ah
@[reducible] def Ty.den:Ty->Type
 | .int _=>Int
 | .bool=>Bool
 | .str=>List UInt8
 | .slice t=>List t.den
 | .st s=>s.den
 | .mv t=>Option (List t.den)
 | .ptr=>Unit
structure TV where
 τ:Ty
 x:τ.den
def TV.Z9(τ:Ty)(v:TV):Option τ.den:=if h:v.τ=τ then some (h ▸ v.x) else none
def TV.aN{τ:Ty}{v:TV}{x:τ.den}(h:v.Z9 τ=some x):v=⟨τ,x⟩:=by
 unfold TV.Z9 at h;split at h
 .rename_i e;subst e;cases v;simp at h;subst h;rfl
 .cases h
@[simp] theorem TV.Zo(τ:Ty)(x:τ.den):TV.Z9 τ ⟨τ,x⟩=some x:=by simp[TV.Z9]
def aH.fields:(s:aH)->s.den->List TV
 | .arr2,x=>[⟨.int .i64,x.a0⟩,⟨.int .i64,x.a1⟩]
 | .sig,x=>[⟨.int .i64,x.aY⟩,⟨.int .i64,x.aB⟩]
 | .expr,x=>[⟨.int .i64,x.aj⟩,⟨.int .i64,x.aT⟩,⟨.slice (.st .expr),x.U⟩]
 | .oExpr,x=>[⟨.int .i64,x.aj⟩,⟨.int .i64,x.aT⟩,⟨.mv (.st .expr),x.U⟩]
 | .word,x=>[⟨.slice (.int .i64),x.LX⟩,⟨.slice (.int .i64),x.P2⟩]
 | .automaton,x=>[⟨.st .sig,x.sig⟩,⟨.slice (.slice (.bool)),x.accept⟩,⟨.slice (.slice (.slice (.int .i64))),x.next⟩]
 | .equation,x=>[⟨.st .expr,x.left⟩,⟨.st .expr,x.right⟩]
 | .reader,x=>[⟨.str,x.text⟩,⟨.int .i64,x.pos⟩]
 | .l00Src,x=>[⟨.slice (.int .u8),x.O⟩,⟨.int .i64,x.pos⟩,⟨.int .u64,x.ar⟩]
 | .l01Reader,x=>[⟨.str,x.text⟩,⟨.int .i64,x.pos⟩,⟨.int .i64,x.aR⟩,⟨.bool,x.bad⟩]
 | .l01Gen,x=>[⟨.ptr,x.s⟩,⟨.st .sig,x.g⟩,⟨.int .i64,x.left⟩]
 | .reached,x=>[⟨.st .arr2,x.pair⟩,⟨.int .i64,x.oM⟩,⟨.int .i64,x.atom⟩,⟨.int .i64,x.act⟩]
def aH.cells:(s:aH)->s.den->List TV
 | .arr2,x=>[⟨.int .i64,x.a0⟩,⟨.int .i64,x.a1⟩]
 | .sig,x=>[⟨.int .i64,x.aY⟩,⟨.int .i64,x.aB⟩]
 | .expr,x=>[⟨.int .i64,x.aj⟩,⟨.int .i64,x.aT⟩,⟨.slice (.st .expr),x.U⟩]
 | .oExpr,x=>[⟨.int .i64,x.aj⟩,⟨.int .i64,x.aT⟩,⟨.mv (.st .expr),x.U⟩]
 | .word,x=>[⟨.slice (.int .i64),x.LX⟩,⟨.slice (.int .i64),x.P2⟩]
 | .automaton,x=>[⟨.int .i64,x.sig.aY⟩,⟨.int .i64,x.sig.aB⟩,⟨.slice (.slice (.bool)),x.accept⟩,⟨.slice (.slice (.slice (.int .i64))),x.next⟩]
 | .equation,x=>[⟨.int .i64,x.left.aj⟩,⟨.int .i64,x.left.aT⟩,⟨.slice (.st .expr),x.left.U⟩,⟨.int .i64,x.right.aj⟩,⟨.int .i64,x.right.aT⟩,⟨.slice (.st .expr),x.right.U⟩]
 | .reader,x=>[⟨.str,x.text⟩,⟨.int .i64,x.pos⟩]
 | .l00Src,x=>[⟨.slice (.int .u8),x.O⟩,⟨.int .i64,x.pos⟩,⟨.int .u64,x.ar⟩]
 | .l01Reader,x=>[⟨.str,x.text⟩,⟨.int .i64,x.pos⟩,⟨.int .i64,x.aR⟩,⟨.bool,x.bad⟩]
 | .l01Gen,x=>[⟨.ptr,x.s⟩,⟨.int .i64,x.g.aY⟩,⟨.int .i64,x.g.aB⟩,⟨.int .i64,x.left⟩]
 | .reached,x=>[⟨.int .i64,x.pair.a0⟩,⟨.int .i64,x.pair.a1⟩,⟨.int .i64,x.oM⟩,⟨.int .i64,x.atom⟩,⟨.int .i64,x.act⟩]
def aH.size:aH->Nat
 | .arr2=>2
 | .sig=>2
 | .expr=>3
 | .oExpr=>3
 | .word=>2
 | .automaton=>4
 | .equation=>6
 | .reader=>2
 | .l00Src=>3
 | .l01Reader=>4
 | .l01Gen=>4
 | .reached=>5
def aH.arr:aH->Bool
 | .arr2=>true
 | _=>false
def aH.a3I(s:aH)(ha:s.arr=true){x y:s.den}(h:s.cells x=s.cells y):x=y:=by cases s<;>first|(cases ha;done)|(cases x;cases y;simpa [aH.cells] using h)
def aH.oj:aH->List Ty
 | .arr2=>[.int .i64, .int .i64]
 | .sig=>[.int .i64, .int .i64]
 | .expr=>[.int .i64, .int .i64, .slice (.st .expr)]
 | .oExpr=>[.int .i64, .int .i64, .mv (.st .expr)]
 | .word=>[.slice (.int .i64), .slice (.int .i64)]
 | .automaton=>[.int .i64, .int .i64, .slice (.slice (.bool)), .slice (.slice (.slice (.int .i64)))]
 | .equation=>[.int .i64, .int .i64, .slice (.st .expr), .int .i64, .int .i64, .slice (.st .expr)]
 | .reader=>[.str, .int .i64]
 | .l00Src=>[.slice (.int .u8), .int .i64, .int .u64]
 | .l01Reader=>[.str, .int .i64, .int .i64, .bool]
 | .l01Gen=>[.ptr, .int .i64, .int .i64, .int .i64]
 | .reached=>[.int .i64, .int .i64, .int .i64, .int .i64, .int .i64]
def aH.c9:aH->List Ty
 | .arr2=>[.int .i64, .int .i64]
 | .sig=>[.int .i64, .int .i64]
 | .expr=>[.int .i64, .int .i64, .slice (.st .expr)]
 | .oExpr=>[.int .i64, .int .i64, .mv (.st .expr)]
 | .word=>[.slice (.int .i64), .slice (.int .i64)]
 | .automaton=>[.st .sig, .slice (.slice (.bool)), .slice (.slice (.slice (.int .i64)))]
 | .equation=>[.st .expr, .st .expr]
 | .reader=>[.str, .int .i64]
 | .l00Src=>[.slice (.int .u8), .int .i64, .int .u64]
 | .l01Reader=>[.str, .int .i64, .int .i64, .bool]
 | .l01Gen=>[.ptr, .st .sig, .int .i64]
 | .reached=>[.st .arr2, .int .i64, .int .i64, .int .i64]
def aH.eF:(s:aH)->List TV->Option s.den
 | .arr2,[a0,a1]=>(a0.Z9 (.int .i64)).bind λ b0=>(a1.Z9 (.int .i64)).bind λ b1=>some (aw.mk b0 b1)
 | .sig,[a0,a1]=>(a0.Z9 (.int .i64)).bind λ b0=>(a1.Z9 (.int .i64)).bind λ b1=>some (aD.mk b0 b1)
 | .expr,[a0,a1,a2]=>(a0.Z9 (.int .i64)).bind λ b0=>(a1.Z9 (.int .i64)).bind λ b1=>(a2.Z9 (.slice (.st .expr))).bind λ b2=>some (J.mk b0 b1 b2)
 | .oExpr,[a0,a1,a2]=>(a0.Z9 (.int .i64)).bind λ b0=>(a1.Z9 (.int .i64)).bind λ b1=>(a2.Z9 (.mv (.st .expr))).bind λ b2=>some (np.mk b0 b1 b2)
 | .word,[a0,a1]=>(a0.Z9 (.slice (.int .i64))).bind λ b0=>(a1.Z9 (.slice (.int .i64))).bind λ b1=>some (gB.mk b0 b1)
 | .automaton,[a0,a1,a2,a3]=>(a0.Z9 (.int .i64)).bind λ b0=>(a1.Z9 (.int .i64)).bind λ b1=>(a2.Z9 (.slice (.slice (.bool)))).bind λ b2=>(a3.Z9 (.slice (.slice (.slice (.int .i64))))).bind λ b3=>some (ae.mk (aD.mk b0 b1) b2 b3)
 | .equation,[a0,a1,a2,a3,a4,a5]=>(a0.Z9 (.int .i64)).bind λ b0=>(a1.Z9 (.int .i64)).bind λ b1=>(a2.Z9 (.slice (.st .expr))).bind λ b2=>(a3.Z9 (.int .i64)).bind λ b3=>(a4.Z9 (.int .i64)).bind λ b4=>(a5.Z9 (.slice (.st .expr))).bind λ b5=>some (aE.mk (J.mk b0 b1 b2) (J.mk b3 b4 b5))
 | .reader,[a0,a1]=>(a0.Z9 (.str)).bind λ b0=>(a1.Z9 (.int .i64)).bind λ b1=>some (lg.mk b0 b1)
 | .l00Src,[a0,a1,a2]=>(a0.Z9 (.slice (.int .u8))).bind λ b0=>(a1.Z9 (.int .i64)).bind λ b1=>(a2.Z9 (.int .u64)).bind λ b2=>some (lb.mk b0 b1 b2)
 | .l01Reader,[a0,a1,a2,a3]=>(a0.Z9 (.str)).bind λ b0=>(a1.Z9 (.int .i64)).bind λ b1=>(a2.Z9 (.int .i64)).bind λ b2=>(a3.Z9 (.bool)).bind λ b3=>some (fE.mk b0 b1 b2 b3)
 | .l01Gen,[a0,a1,a2,a3]=>(a0.Z9 (.ptr)).bind λ b0=>(a1.Z9 (.int .i64)).bind λ b1=>(a2.Z9 (.int .i64)).bind λ b2=>(a3.Z9 (.int .i64)).bind λ b3=>some (lf.mk b0 (aD.mk b1 b2) b3)
 | .reached,[a0,a1,a2,a3,a4]=>(a0.Z9 (.int .i64)).bind λ b0=>(a1.Z9 (.int .i64)).bind λ b1=>(a2.Z9 (.int .i64)).bind λ b2=>(a3.Z9 (.int .i64)).bind λ b3=>(a4.Z9 (.int .i64)).bind λ b4=>some (ah.mk (aw.mk b0 b1) b2 b3 b4)
 | _,_=>none
def aH.ni:∀ {s:aH} {l:List TV} {x:s.den},s.eF l=some x->s.cells x=l:=by
 intro s l x h;cases s;case arr2 =>
  match l,h with
  | [a0,a1],h =>
   simp only[aH.eF,b6Q,b5E] at h;obtain⟨b0,h0,⟨b1,h1,rfl⟩⟩:=h;have e0:=TV.aN h0;have e1:=TV.aN h1;subst e0 e1;rfl
 case sig =>
  match l,h with
  | [a0,a1],h =>
   simp only[aH.eF,b6Q,b5E] at h;obtain⟨b0,h0,⟨b1,h1,rfl⟩⟩:=h;have e0:=TV.aN h0;have e1:=TV.aN h1;subst e0 e1;rfl
 case expr =>
  match l,h with
  | [a0,a1,a2],h =>
   simp only[aH.eF,b6Q,b5E] at h;obtain⟨b0,h0,⟨b1,h1,⟨b2,h2,rfl⟩⟩⟩:=h;have e0:=TV.aN h0;have e1:=TV.aN h1;have e2:=TV.aN h2;subst e0 e1 e2;rfl
 case oExpr =>
  match l,h with
  | [a0,a1,a2],h =>
   simp only[aH.eF,b6Q,b5E] at h;obtain⟨b0,h0,⟨b1,h1,⟨b2,h2,rfl⟩⟩⟩:=h;have e0:=TV.aN h0;have e1:=TV.aN h1;have e2:=TV.aN h2;subst e0 e1 e2;rfl
 case word =>
  match l,h with
  | [a0,a1],h =>
   simp only[aH.eF,b6Q,b5E] at h;obtain⟨b0,h0,⟨b1,h1,rfl⟩⟩:=h;have e0:=TV.aN h0;have e1:=TV.aN h1;subst e0 e1;rfl
 case automaton =>
  match l,h with
  | [a0,a1,a2,a3],h =>
   simp only[aH.eF,b6Q,b5E] at h;obtain⟨b0,h0,⟨b1,h1,⟨b2,h2,⟨b3,h3,rfl⟩⟩⟩⟩:=h;have e0:=TV.aN h0;have e1:=TV.aN h1;have e2:=TV.aN h2;have e3:=TV.aN h3;subst e0 e1 e2 e3;rfl
 case equation =>
  match l,h with
  | [a0,a1,a2,a3,a4,a5],h =>
   simp only[aH.eF,b6Q,b5E] at h;obtain⟨b0,h0,⟨b1,h1,⟨b2,h2,⟨b3,h3,⟨b4,h4,⟨b5,h5,rfl⟩⟩⟩⟩⟩⟩:=h;have e0:=TV.aN h0;have e1:=TV.aN h1;have e2:=TV.aN h2;have e3:=TV.aN h3;have e4:=TV.aN h4;have e5:=TV.aN h5;subst e0 e1 e2 e3 e4 e5;rfl
 case reader =>
  match l,h with
  | [a0,a1],h =>
   simp only[aH.eF,b6Q,b5E] at h;obtain⟨b0,h0,⟨b1,h1,rfl⟩⟩:=h;have e0:=TV.aN h0;have e1:=TV.aN h1;subst e0 e1;rfl
 case l00Src =>
  match l,h with
  | [a0,a1,a2],h =>
   simp only[aH.eF,b6Q,b5E] at h;obtain⟨b0,h0,⟨b1,h1,⟨b2,h2,rfl⟩⟩⟩:=h;have e0:=TV.aN h0;have e1:=TV.aN h1;have e2:=TV.aN h2;subst e0 e1 e2;rfl
 case l01Reader =>
  match l,h with
  | [a0,a1,a2,a3],h =>
   simp only[aH.eF,b6Q,b5E] at h;obtain⟨b0,h0,⟨b1,h1,⟨b2,h2,⟨b3,h3,rfl⟩⟩⟩⟩:=h;have e0:=TV.aN h0;have e1:=TV.aN h1;have e2:=TV.aN h2;have e3:=TV.aN h3;subst e0 e1 e2 e3;rfl
 case l01Gen =>
  match l,h with
  | [a0,a1,a2,a3],h =>
   simp only[aH.eF,b6Q,b5E] at h;obtain⟨b0,h0,⟨b1,h1,⟨b2,h2,⟨b3,h3,rfl⟩⟩⟩⟩:=h;have e0:=TV.aN h0;have e1:=TV.aN h1;have e2:=TV.aN h2;have e3:=TV.aN h3;subst e0 e1 e2 e3;rfl
 case reached =>
  match l,h with
  | [a0,a1,a2,a3,a4],h =>
   simp only[aH.eF,b6Q,b5E] at h;obtain⟨b0,h0,⟨b1,h1,⟨b2,h2,⟨b3,h3,⟨b4,h4,rfl⟩⟩⟩⟩⟩:=h;have e0:=TV.aN h0;have e1:=TV.aN h1;have e2:=TV.aN h2;have e3:=TV.aN h3;have e4:=TV.aN h4;subst e0 e1 e2 e3 e4;rfl
def aH.gm(s:aH)(x:s.den):(s.cells x).length=s.size:=by cases s<;>rfl
def aH.jG(s:aH)(x:s.den):(s.cells x).map TV.τ=s.oj:=by cases s<;>rfl
def aH.EI(s:aH)(x:s.den):(s.fields x).map TV.τ=s.c9:=by cases s<;>rfl
def Ty.size:Ty->Nat
 | .st s=>s.size
 | _=>1
def TV.cells(v:TV):List TV :=
 match v with
 | ⟨.st s,x⟩=>s.cells x
 | v=>[v]
def aH.Hr(s:aH)(x:s.den):s.cells x=(s.fields x).flatMap TV.cells:=by cases s<;>rfl
def aw.aL(x:aw):D := .agg [.int .i64 x.a0, .int .i64 x.a1]
def aD.aL(x:aD):D := .agg [.int .i64 x.aY, .int .i64 x.aB]
mutual
def J.aL:J->D
 | ⟨aj,aT,U⟩ => .agg [.int .i64 aj, .int .i64 aT, .slice 3 (J.a6o U)]
def J.a6o:List J->List D
 | []=>[]
 | e::r=>e.aL::J.a6o r
end
def J.LF:∀ l,J.a6o l=l.map J.aL
 | []=>rfl
 | _::r=>congrArg _ (J.LF r)
def np.aL(x:np):D := .agg [.int .i64 x.aj, .int .i64 x.aT,mvD 3 (λ y=>J.aL y) x.U]
def gB.aL(x:gB):D := .agg [.slice 1 (x.LX.map λ y => .int .i64 y), .slice 1 (x.P2.map λ y => .int .i64 y)]
def ae.aL(x:ae):D := .agg [.int .i64 x.sig.aY, .int .i64 x.sig.aB, .slice 1 (x.accept.map λ y => .slice 1 (y.map λ y => .bool y)), .slice 1 (x.next.map λ y => .slice 1 (y.map λ y => .slice 1 (y.map λ y => .int .i64 y)))]
def aE.aL(x:aE):D := .agg [.int .i64 x.left.aj, .int .i64 x.left.aT, .slice 3 (x.left.U.map λ y=>J.aL y), .int .i64 x.right.aj, .int .i64 x.right.aT, .slice 3 (x.right.U.map λ y=>J.aL y)]
def lg.aL(x:lg):D := .agg [.str x.text, .int .i64 x.pos]
def lb.aL(x:lb):D := .agg [.slice 1 (x.O.map λ y => .int .u8 y), .int .i64 x.pos, .int .u64 x.ar]
def fE.aL(x:fE):D := .agg [.str x.text, .int .i64 x.pos, .int .i64 x.aR, .bool x.bad]
def lf.aL(x:lf):D := .agg [.ptr, .int .i64 x.g.aY, .int .i64 x.g.aB, .int .i64 x.left]
def ah.aL(x:ah):D := .agg [.int .i64 x.pair.a0, .int .i64 x.pair.a1, .int .i64 x.oM, .int .i64 x.atom, .int .i64 x.act]
def aH.aL:(s:aH)->s.den->D
 | .arr2,x=>aw.aL x
 | .sig,x=>aD.aL x
 | .expr,x=>J.aL x
 | .oExpr,x=>np.aL x
 | .word,x=>gB.aL x
 | .automaton,x=>ae.aL x
 | .equation,x=>aE.aL x
 | .reader,x=>lg.aL x
 | .l00Src,x=>lb.aL x
 | .l01Reader,x=>fE.aL x
 | .l01Gen,x=>lf.aL x
 | .reached,x=>ah.aL x
def Ty.aL:(t:Ty)->t.den->D
 | .int k,n => .int k n
 | .bool,b => .bool b
 | .str,s => .str s
 | .slice t,xs => .slice t.size (xs.map t.aL)
 | .st s,x=>s.aL x
 | .mv t,o=>mvD t.size t.aL o
 | .ptr,_ => .ptr
def TV.aL(v:TV):D:=v.τ.aL v.x
def aH.bT(s:aH)(x:s.den):s.aL x = .agg ((s.cells x).map TV.aL):=by
 cases s<;>first
  | rfl
  | (cases x;simp[aH.aL,J.aL,aH.cells,TV.aL,Ty.aL,Ty.size,aH.size,J.LF];done)
  | (simp[aH.aL,aH.cells,TV.aL,Ty.aL,Ty.size,aH.size,aw.aL,aD.aL,J.aL,np.aL,gB.aL,ae.aL,aE.aL,lg.aL,lb.aL,fE.aL,lf.aL,ah.aL,J.LF];done)
def aH.zero:(s:aH)->s.den
 | .arr2=>(aw.mk 0 0)
 | .sig=>(aD.mk 0 0)
 | .expr=>(J.mk 0 0 [])
 | .oExpr=>(np.mk 0 0 none)
 | .word=>(gB.mk [] [])
 | .automaton=>(ae.mk (aD.mk 0 0) [] [])
 | .equation=>(aE.mk (J.mk 0 0 []) (J.mk 0 0 []))
 | .reader=>(lg.mk [] 0)
 | .l00Src=>(lb.mk [] 0 0)
 | .l01Reader=>(fE.mk [] 0 0 false)
 | .l01Gen=>(lf.mk () (aD.mk 0 0) 0)
 | .reached=>(ah.mk (aw.mk 0 0) 0 0 0)
def Ty.zero:(t:Ty)->t.den
 | .int _=>(0:Int)
 | .bool=>false
 | .str=>([]:List UInt8)
 | .slice _=>[]
 | .st s=>s.zero
 | .mv _=>none
 | .ptr=>()
instance:Inhabited aw:=⟨aH.zero .arr2⟩
def aw.eta(x:aw):aw.mk x.a0 x.a1=x:=by cases x;rfl
instance:Inhabited aD:=⟨aH.zero .sig⟩
def aD.eta(x:aD):aD.mk x.aY x.aB=x:=by cases x;rfl
instance:Inhabited J:=⟨aH.zero .expr⟩
def J.eta(x:J):J.mk x.aj x.aT x.U=x:=by cases x;rfl
instance:Inhabited np:=⟨aH.zero .oExpr⟩
def np.eta(x:np):np.mk x.aj x.aT x.U=x:=by cases x;rfl
instance:Inhabited gB:=⟨aH.zero .word⟩
def gB.eta(x:gB):gB.mk x.LX x.P2=x:=by cases x;rfl
instance:Inhabited ae:=⟨aH.zero .automaton⟩
def ae.eta(x:ae):ae.mk x.sig x.accept x.next=x:=by cases x;rfl
instance:Inhabited aE:=⟨aH.zero .equation⟩
def aE.eta(x:aE):aE.mk x.left x.right=x:=by cases x;rfl
instance:Inhabited lg:=⟨aH.zero .reader⟩
def lg.eta(x:lg):lg.mk x.text x.pos=x:=by cases x;rfl
instance:Inhabited lb:=⟨aH.zero .l00Src⟩
def lb.eta(x:lb):lb.mk x.O x.pos x.ar=x:=by cases x;rfl
instance:Inhabited fE:=⟨aH.zero .l01Reader⟩
def fE.eta(x:fE):fE.mk x.text x.pos x.aR x.bad=x:=by cases x;rfl
instance:Inhabited lf:=⟨aH.zero .l01Gen⟩
def lf.eta(x:lf):lf.mk x.s x.g x.left=x:=by cases x;rfl
instance:Inhabited ah:=⟨aH.zero .reached⟩
def ah.eta(x:ah):ah.mk x.pair x.oM x.atom x.act=x:=by cases x;rfl
def aV(x:J):J:=J.mk x.aj x.aT x.U
def aQ(x:J):aV x=x:=by cases x;simp[aV]
def eW(x:aE):aE:=aE.mk (aV x.left) (aV x.right)
def bq(x:aE):eW x=x:=by cases x;simp[eW,aQ]
def aH.ZL:∀ (s:aH) (fl:List TV),fl.map TV.τ=s.c9->∃ x,s.fields x=fl
 | .arr2,fl,h=>by
  match fl,h with
  | [⟨t0,a0⟩,⟨t1,a1⟩],h =>
   simp only[b6w,b7f,aH.c9,b5J,b5W] at h;obtain⟨rfl,rfl⟩:=h;exact⟨⟨a0,a1⟩,rfl⟩
 | .sig,fl,h=>by
  match fl,h with
  | [⟨t0,a0⟩,⟨t1,a1⟩],h =>
   simp only[b6w,b7f,aH.c9,b5J,b5W] at h;obtain⟨rfl,rfl⟩:=h;exact⟨⟨a0,a1⟩,rfl⟩
 | .expr,fl,h=>by
  match fl,h with
  | [⟨t0,a0⟩,⟨t1,a1⟩,⟨t2,a2⟩],h =>
   simp only[b6w,b7f,aH.c9,b5J,b5W] at h;obtain⟨rfl,rfl,rfl⟩:=h;exact⟨⟨a0,a1,a2⟩,rfl⟩
 | .oExpr,fl,h=>by
  match fl,h with
  | [⟨t0,a0⟩,⟨t1,a1⟩,⟨t2,a2⟩],h =>
   simp only[b6w,b7f,aH.c9,b5J,b5W] at h;obtain⟨rfl,rfl,rfl⟩:=h;exact⟨⟨a0,a1,a2⟩,rfl⟩
 | .word,fl,h=>by
  match fl,h with
  | [⟨t0,a0⟩,⟨t1,a1⟩],h =>
   simp only[b6w,b7f,aH.c9,b5J,b5W] at h;obtain⟨rfl,rfl⟩:=h;exact⟨⟨a0,a1⟩,rfl⟩
 | .automaton,fl,h=>by
  match fl,h with
  | [⟨t0,a0⟩,⟨t1,a1⟩,⟨t2,a2⟩],h =>
   simp only[b6w,b7f,aH.c9,b5J,b5W] at h;obtain⟨rfl,rfl,rfl⟩:=h;exact⟨⟨a0,a1,a2⟩,rfl⟩
 | .equation,fl,h=>by
  match fl,h with
  | [⟨t0,a0⟩,⟨t1,a1⟩],h =>
   simp only[b6w,b7f,aH.c9,b5J,b5W] at h;obtain⟨rfl,rfl⟩:=h;exact⟨⟨a0,a1⟩,rfl⟩
 | .reader,fl,h=>by
  match fl,h with
  | [⟨t0,a0⟩,⟨t1,a1⟩],h =>
   simp only[b6w,b7f,aH.c9,b5J,b5W] at h;obtain⟨rfl,rfl⟩:=h;exact⟨⟨a0,a1⟩,rfl⟩
 | .l00Src,fl,h=>by
  match fl,h with
  | [⟨t0,a0⟩,⟨t1,a1⟩,⟨t2,a2⟩],h =>
   simp only[b6w,b7f,aH.c9,b5J,b5W] at h;obtain⟨rfl,rfl,rfl⟩:=h;exact⟨⟨a0,a1,a2⟩,rfl⟩
 | .l01Reader,fl,h=>by
  match fl,h with
  | [⟨t0,a0⟩,⟨t1,a1⟩,⟨t2,a2⟩,⟨t3,a3⟩],h =>
   simp only[b6w,b7f,aH.c9,b5J,b5W] at h;obtain⟨rfl,rfl,rfl,rfl⟩:=h;exact⟨⟨a0,a1,a2,a3⟩,rfl⟩
 | .l01Gen,fl,h=>by
  match fl,h with
  | [⟨t0,a0⟩,⟨t1,a1⟩,⟨t2,a2⟩],h =>
   simp only[b6w,b7f,aH.c9,b5J,b5W] at h;obtain⟨rfl,rfl,rfl⟩:=h;exact⟨⟨a0,a1,a2⟩,rfl⟩
 | .reached,fl,h=>by
  match fl,h with
  | [⟨t0,a0⟩,⟨t1,a1⟩,⟨t2,a2⟩,⟨t3,a3⟩],h =>
   simp only[b6w,b7f,aH.c9,b5J,b5W] at h;obtain⟨rfl,rfl,rfl,rfl⟩:=h;exact⟨⟨a0,a1,a2,a3⟩,rfl⟩
abbrev zE:J:=J.mk (0:Int) (0:Int) []
def af:True:=trivial
noncomputable section
@[reducible] def FN:List Ty->Ty->Type
 | [],r=>Prop×r.den
 | t::ts,r=>t.den->FN ts r
structure FV where
 ps:List Ty
 r:Ty
 F:FN ps r
def FV.Z9(ps:List Ty)(r:Ty)(v:FV):Option (FN ps r):=if h:v.ps=ps then (if k:v.r=r then some (h ▸ k ▸ v.F) else none) else none
def FV.aN{ps:List Ty}{r:Ty}{v:FV}{F:FN ps r}(h:v.Z9 ps r=some F):v=⟨ps,r,F⟩:=by
 unfold FV.Z9 at h;split at h
 .split at h
  .rename_i e k;obtain⟨ps',r',F'⟩:=v;simp only at e k;subst e k;simp at h;subst h;rfl
  .cases h
 .cases h
@[simp] theorem FV.Zo(ps:List Ty)(r:Ty)(F:FN ps r):FV.Z9 ps r ⟨ps,r,F⟩=some F:=by simp[FV.Z9]
structure MV where
 κ:Ty
 ε:Ty
 f:κ.den->Option ε.den
 n:Nat
def MV.Z9(κ ε:Ty)(m:MV):Option ((κ.den->Option ε.den)×Nat):=if h:m.κ=κ then (if k:m.ε=ε then some (h ▸ k ▸ (m.f,m.n)) else none) else none
def MV.aN{κ ε:Ty}{m:MV}{F:(κ.den->Option ε.den)×Nat}(h:m.Z9 κ ε=some F):m=⟨κ,ε,F.1,F.2⟩:=by
 unfold MV.Z9 at h;split at h
 .split at h
  .rename_i e k;obtain⟨κ',ε',f',n'⟩:=m;simp only at e k;subst e k;simp at h;subst h;rfl
  .cases h
 .cases h
@[simp] theorem MV.Zo(κ ε:Ty)(f:κ.den->Option ε.den)(n:Nat):MV.Z9 κ ε ⟨κ,ε,f,n⟩=some (f,n):=by simp[MV.Z9]
def fj{α β:Type}(f:α->Option β)(k:α)(v:β):α->Option β:=λ x => @ite _ (x=k) (Classical.propDecidable _) (some v) (f x)
def jm(α β:Type):α->Option β:=λ _=>none
def gH{β:Type}(o:Option β)(n:Nat):Nat:=bif o.isSome then n else n+1
inductive AV where
 | any
 | dY
 | aO (v:TV)
 | nil
 | cT (v:TV)
 | ptr (id off:Nat)
 | row (id:Nat)
 | eA (id i off:Nat)
 | agg (cs:List AV)
 | hY (vs:List AV)
 | fn (f:FuncId)
 | aC (id:Nat)
 | sub (id i off sz:Nat)
 | eJ (id i off sz:Nat)
 | cO (f:FuncId) (cs:List AV)
 | il (v:FV)
 | mp (id:Nat)
inductive av where
 | box (cs:List AV)
 | row (e:TypeId) (τ:Ty) (xs:List τ.den)
 | aC (τ:Ty) (xs:List τ.den)
 | map (m:MV)
structure aq where
 aA:List AV
 aK:List (Nat×av)
inductive Arg where
 | val (v:TV)
 | ref (v:TV)
 | fn (f:FuncId)
 | cO (v:FV)
 | own (v:TV)
 | box (k:Nat)
inductive CK where
 | d (τ:Ty)
 | o (τ:Ty)
 | p (k:Nat)
structure SK where
 ps:List (Option Nat)
 sh:List (List CK)
def ai{α:Type}:List (Nat×α)->Nat->Option α
 | [],_=>none
 | (k,v)::r,n=>match Nat.beq k n with
  | true=>some v
  | false=>ai r n
abbrev Vc:=Option Prop
def Vc.ok:Vc->Prop
 | .none=>True
 | .some p=>p
def Vc.and(v:Vc)(K:Prop):Prop:=match v with
 | .none=>K
 | .some p=>p/\K
def Vc.jE{v:Vc}{K:Prop}(h:v.and K):v.ok/\K:=by
 cases v with
 | none=>exact⟨af,h⟩
 | some p=>exact h
structure WZ where
 τ:Ty
 g:τ.den->Int->Vc×τ.den×Int
structure rJ where
 ps:List Ty
 r:Ty
 ew:List (Bool×Ty)
def Arg.Js:Arg->Bool
 | .ref _ | .cO _ | .box _=>false
 | _=>true
inductive a1e where
 | box (cells:List TV)
 | row (e:TypeId) (τ:Ty) (xs:List τ.den)
 | res (l:List (Bool×TV))
structure Env where
 ty:List (Nat×Ty×Nat×Nat)
 Ws:List (Nat×Ty)
 Mf:Nat->List Arg->Option (Vc×List TV)
 wr:List Nat:=[]
 own:List Nat:=[]
 Lb:Nat->List Arg->Option (Vc×List TV):=λ _ _=>none
 mark:Nat->Option WZ:=λ _=>none
 cO:Nat->Option rJ:=λ _=>none
 ro:List Nat:=[]
 tk:Nat->List Bool:=λ _=>[]
 sk:Nat->Option SK:=λ _=>none
 UJ:Nat->List Arg->List (List TV)->Option (Vc×List TV×List (List TV)):=λ _ _ _=>none
 K7:List (Nat×Ty×Ty):=[]
 RG:Nat->List Arg->Option (Vc×a1e):=λ _ _=>none
 cmp:List Nat:=[]
 Oo:Nat->List Arg->(τ:Ty)->List τ.den->Option (Vc×List τ.den):=λ _ _ _ _=>none
def aq.ai(s:aq)(id:Nat):Option av:=YtlpndogmpcolnaaGreatDoor.ai s.aK id
def Qr(k:IntKind)(n:Int):Bool :=
 match n with
 | .ofNat m=>match k with
  | .i64=>Nat.ble m 9223372036854775807
  | .u64=>Nat.ble m 18446744073709551615
  | .u8=>Nat.ble m 255
  | _=>Nat.ble m 127
 | .negSucc m=>match k with
  | .i64=>Nat.ble m 9223372036854775807
  | _=>false
def J7:Value->AV
 | .int k n=>match Qr k n with
  | true => .aO ⟨.int k,n⟩
  | false => .any
 | .bool b => .aO ⟨.bool,b⟩
 | .string s=>match Nat.ble s.data.size 1000000 with
  | true => .aO ⟨.str,s.data.toList⟩
  | false => .any
 | .slice none 0 0 => .nil
 | _ => .any
def Xe:Value->AV
 | .agg cs => .agg (cs.toList.map J7)
 | .tuple cs=>match Nat.beq cs.size 0 with
  | true => .dY
  | false => .any
 | v=>J7 v
def aq.eval(s:aq):Operand->AV
 | .tmp t=>s.aA.getD t .any
 | .const v=>Xe v
 | .func f => .fn f
 | .global _ => .any
def jv(lk:Nat->Option av)(τ:Ty):AV->Option τ.den
 | .aO v=>v.Z9 τ
 | .nil=>match τ with
  | .slice _=>some []
  | _=>none
 | .row id=>match lk id with
  | some (.row _ aU xs)=>TV.Z9 τ ⟨.slice aU,xs⟩
  | _=>none
 | .aC id=>match lk id with
  | some (.aC aU xs)=>TV.Z9 τ ⟨.slice aU,xs⟩
  | _=>none
 | _=>none
def La(lk:Nat->Option av)(id:Nat):Option av:=match lk id with
 | some (.aC _ _)=>none
 | o=>o
def P9(lk:Nat->Option av):List AV->List Ty->Option (List TV)
 | [],[]=>some []
 | c::cs,t::ts=>match jv lk t c with
  | some x=>match P9 lk cs ts with
   | some r=>some (⟨t,x⟩::r)
   | none=>none
  | none=>none
 | _,_=>none
def uP(lk:Nat->Option av)(τ:Ty):AV->Option τ.den
 | .agg cs=>match τ with
  | .st s=>match P9 lk cs s.oj with
   | some l=>s.eF l
   | none=>none
  | _=>none
 | v=>jv lk τ v
def AV.cell:AV->Bool
 | .any | .dY | .agg _ | .hY _ | .eJ .. | .cO .. | .il .. => false
 | .aO v=>match v.τ with
  | .st _=>false
  | _=>true
 | _=>true
def cellsOf(τ:Ty)(v:AV):Option (List AV) :=
 match τ with
 | .st s=>match v with
  | .aO x=>match x.Z9 (.st s) with
   | some y=>some ((s.cells y).map .aO)
   | none=>none
  | .agg cs=>match Nat.beq cs.length s.size&&cs.all AV.cell with
   | true=>some cs
   | false=>none
  | _=>none
 | _=>match v.cell with
  | true=>some [v]
  | false=>none
def Gk(cs:List AV)(off:Nat)(τ:Ty):Option AV :=
 match τ with
 | .st s=>match Nat.ble (off+s.size) cs.length with
  | true=>some (.agg ((cs.drop off).take s.size))
  | false=>none
 | _=>cs[off]?
def putCells(cs:List AV)(off:Nat)(new:List AV):Option (List AV) :=
 match Nat.ble (off+new.length) cs.length with
 | true=>some (cs.take off++(new++cs.drop (off+new.length)))
 | false=>none
def TV.part(v:TV)(off:Nat)(τ:Ty):Option TV :=
 match Nat.beq off 0&&decide (v.τ=τ) with
 | true=>some v
 | false=>match v.cells[off]? with
  | some u=>match decide (u.τ=τ) with
   | true=>some u
   | false=>none
  | none=>none
def TV.a0x(v:TV)(off:Nat):Ty->Option AV
 | .st s=>match Nat.ble (off+s.size) v.cells.length with
  | true=>some (.agg (((v.cells.drop off).take s.size).map .aO))
  | false=>none
 | _=>none
def rC(lk:Nat->Option av)(τ:Ty):AV->Option AV
 | .cT v=>match decide (v.τ=τ) with
  | true=>some (.aO v)
  | false=>none
 | .ptr id off=>match lk id with
  | some (.box cs)=>Gk cs off τ
  | _=>none
 | .eA id i off=>match lk id with
  | some (.row _ aU xs)=>match TV.part ⟨aU,xs.getD i aU.zero⟩ off τ with
   | some u=>some (.aO u)
   | none=>TV.a0x ⟨aU,xs.getD i aU.zero⟩ off τ
  | _=>none
 | _=>none
def deref(lk:Nat->Option av)(τ:Ty)(v:AV):Option τ.den :=
 match rC lk τ v with
 | some u=>uP lk τ u
 | none=>none
def aH.dL(s:aH)(i:Nat):Nat:=((s.c9.take i).map Ty.size).sum
def zeroCell(τ:Ty):AV :=
 match τ with
 | .slice _ => .nil
 | τ => .aO ⟨τ,τ.zero⟩
def zeroCells(τ:Ty):List AV :=
 match τ with
 | .st s=>s.oj.map zeroCell
 | τ=>[zeroCell τ]
def oX(lk:Nat->Option av):List (Bool×Ty)->List AV->Option (List Arg)
 | [],[]=>some []
 | (true,τ)::ks,v::vs=>match deref lk τ v with
  | some x=>match oX lk ks vs with
   | some r=>some (.ref ⟨τ,x⟩::r)
   | none=>none
  | none=>none
 | (false,τ)::ks,v::vs=>match uP lk τ v with
  | some x=>match oX lk ks vs with
   | some r=>some (.val ⟨τ,x⟩::r)
   | none=>none
  | none=>none
 | _,_=>none
def Qm(E:Env)(f:FuncId)(ew:List Arg):(ps:List Ty)->(r:Ty)->List Arg->FN ps r
 | [],r,acc=>match E.Mf f (acc++ew) with
  | some (pre,[v])=>match v.Z9 r with
   | some y=>(pre.ok,y)
   | none=>(False,r.zero)
  | _=>(False,r.zero)
 | t::ts,r,acc=>λ x=>Qm E f ew ts r (acc++[.val ⟨t,x⟩])
def te:(ps:List Ty)->(r:Ty)->FN ps r->List Arg->Option (Prop×r.den)
 | [],_,F,[]=>some F
 | t::ts,r,F, .val a::zs=>match a.Z9 t with
  | some x=>te ts r (F x) zs
  | none=>none
 | _,_,_,_=>none
def BS(E:Env)(lk:Nat->Option av):AV->Option FV
 | .cO f cs=>match E.cO f with
  | some k=>match oX lk k.ew cs with
   | some Z9=>some ⟨k.ps,k.r,Qm E f Z9 k.ps k.r []⟩
   | none=>none
  | none=>none
 | .il v=>some v
 | .fn f=>match E.cO f with
  | some k=>match k.ew with
   | []=>some ⟨k.ps,k.r,Qm E f [] k.ps k.r []⟩
   | _=>none
  | none=>none
 | _=>none
def P7(E:Env)(lk:Nat->Option av)(T:TypeId)(v:AV):Option Arg :=
 match ai E.ty T with
 | some (τ,_)=>match uP lk τ v with
  | some x=>some (.val ⟨τ,x⟩)
  | none=>none
 | none=>match ai E.Ws T with
  | some τ=>match deref lk τ v with
   | some x=>some (.ref ⟨τ,x⟩)
   | none=>none
  | none=>match BS E lk v with
   | some q=>some (.cO q)
   | none=>match v with
    | .fn f=>some (.fn f)
    | _=>none
def lU(E:Env)(lk:Nat->Option av):List TypeId->List AV->Option (List Arg)
 | [],[]=>some []
 | T::Ts,v::vs=>match P7 E lk T v with
  | some x=>match lU E lk Ts vs with
   | some r=>some (x::r)
   | none=>none
  | none=>none
 | _,_=>none
def CE:List TV->AV
 | [v] => .aO v
 | vs => .hY (vs.map .aO)
def ag(n:Int):Prop := -9223372036854775808<=n/\n<=9223372036854775807
def ca(k:IntKind)(n:Int):Prop :=
 match k with
 | .i64=>ag n
 | k=>k.min<=n/\n<=k.max
def aJ(n:Int)(len:Nat):Prop:=0<=n/\n<(len:Int)
def ei(l h:Int)(len:Nat):Prop:=0<=l/\l<=h/\h<=(len:Int)
def cY(n m:Int)(b:Nat):Prop:=0<=n/\n<=m/\m * ((b:Int)+1)<=140737488355328
def bn(n b:Nat):Prop:=n * (b+1)<=140737488355328
def arith(op:BinOp)(k:IntKind)(a b:Int):Option (Vc×Int) :=
 match op with
 | .add=>match k with
  | .u64=>some (.none,IntKind.u64.wrap (a+b))
  | k=>some (.some (ca k (a+b)),a+b)
 | .sub=>some (.some (ca k (a - b)),a - b)
 | .mul=>match k with
  | .u64=>some (.none,IntKind.u64.wrap (a * b))
  | k=>some (.some (ca k (a * b)),a * b)
 | .quo=>some (.some (b≠0/\ca k (a.tdiv b)),a.tdiv b)
 | .rem=>some (.some (b≠0/\ca k (a.tmod b)),a.tmod b)
 | .shl=>some (.some (0<=b/\b<k.bits/\ca k (a * 2 ^ b.toNat)),a * 2 ^ b.toNat)
 | .shr=>some (.some (0<=b/\b<k.bits/\ca k (a.fdiv (2 ^ b.toNat))),a.fdiv (2 ^ b.toNat))
 | .and=>some (.some (0<=a/\0<=b/\ca k a/\ca k b),((a.toNat &&& b.toNat:Nat):Int))
 | _=>none
def cmp(op:BinOp)(a b:Int):Option Bool :=
 match op with
 | .eql=>some (decide (a=b))
 | .neq=>some (!decide (a=b))
 | .lss=>some (decide (a<b))
 | .leq=>some (decide (a<=b))
 | .gtr=>some (decide (b<a))
 | .geq=>some (decide (b<=a))
 | _=>none
def Va(wr:Bool)(op:BinOp)(k:IntKind)(a b:Int):Option (Vc×Int) :=
 match wr with
 | true=>match op with
  | .add=>some (.none,k.wrap (a+b))
  | .sub=>some (.none,k.wrap (a - b))
  | .mul=>some (.none,k.wrap (a * b))
  | op=>arith op k a b
 | false=>arith op k a b
def Zu(tb wr:Bool)(op:BinOp)(u v:AV):Option (Vc×AV) :=
 match u,v with
 | .aO ⟨.int k,a⟩, .aO ⟨.int k',b⟩=>match Va wr op k a b with
  | some (p,r)=>match op with
   | .shl | .shr=>some (p, .aO ⟨.int k,r⟩)
   | _=>match decide (k=k') with
    | true=>some (p, .aO ⟨.int k,r⟩)
    | false=>none
  | none=>match decide (k=k') with
   | true=>match cmp op a b with
    | some c=>some (.none, .aO ⟨.bool,c⟩)
    | none=>none
   | false=>none
 | .aO ⟨.bool,a⟩, .aO ⟨.bool,b⟩=>match tb with
  | true=>match op with
   | .eql=>some (.none, .aO ⟨.bool,a == b⟩)
   | .neq=>some (.none, .aO ⟨.bool,!(a == b)⟩)
   | _=>none
  | false=>none
 | .aO ⟨.str,a⟩, .aO ⟨.str,b⟩=>match op with
  | .eql=>some (.none, .aO ⟨.bool,decide (a=b)⟩)
  | .neq=>some (.none, .aO ⟨.bool,!decide (a=b)⟩)
  | .add=>some (.some (a.length+b.length<=140737488355328), .aO ⟨.str,a++b⟩)
  | _=>none
 | _,_=>none
def partsOf(E:Env)(s:aH)(cs:List AV):List (Nat×AV)->Option (List AV)
 | []=>some cs
 | (i,v)::r=>match s.c9[i]? with
  | some τ=>match cellsOf τ v with
   | some new=>match putCells cs (s.dL i) new with
    | some dw=>partsOf E s dw r
    | none=>none
   | none=>none
  | none=>none
def rX(τ:Ty):Nat->List (Nat×AV)->Option (List τ.den)
 | _,[]=>some []
 | n,(
    i,v)::r=>match Nat.beq i n with
  | true=>match uP (λ _=>none) τ v with
   | some x=>match rX τ (n+1) r with
    | some xs=>some (x::xs)
    | none=>none
   | none=>none
  | false=>none
def TV.flat(v:TV):Bool:=v.cells.all λ u=>match u.τ with
 | .slice _=>false
 | .mv _=>false
 | _=>true
def oW(d:Int):Option AV->Option Int
 | none=>some d
 | some (.aO ⟨.int _,n⟩)=>some n
 | _=>none
def rD(lk:Nat->Option av)(id:Nat):Option av:=match lk id with
 | some (.box cs)=>some (.box cs)
 | _=>none
def Gc(E:Env)(lk:Nat->Option av)(f:FuncId)(Ts:List TypeId)(vs:List AV):Option (Vc×AV×Option av) :=
 match lU E (rD lk) Ts vs with
 | some Z9=>match E.Mf f Z9 with
  | some (pre,res)=>some (pre,CE res,none)
  | none=>none
 | none=>match lU E lk Ts vs with
  | some Z9=>match E.Mf f Z9 with
   | some (pre,res)=>match res.all TV.flat with
    | true=>some (pre,CE res,none)
    | false=>none
   | none=>none
  | none=>none
def Aq(E:Env)(lk:Nat->Option av)(g:AV)(Ts:List TypeId)(vs:List AV):Option (Vc×AV×Option av) :=
 match (match lU E (rD lk) Ts vs with
  | some Z9=>match BS E (rD lk) g with
   | some q=>match te q.ps q.r q.F Z9 with
    | some (pre,y)=>some (some pre,CE [⟨q.r,y⟩],none)
    | none=>none
   | none=>none
  | none=>none) with
 | some r=>some r
 | none=>match lU E lk Ts vs with
  | some Z9=>match BS E lk g with
   | some q=>match te q.ps q.r q.F Z9 with
    | some (pre,y)=>match TV.flat ⟨q.r,y⟩ with
     | true=>some (some pre,CE [⟨q.r,y⟩],none)
     | false=>none
    | none=>none
   | none=>none
  | none=>none
def AV.a3W:AV->Bool
 | .dY | .hY _ | .cO .. | .il .. | .sub .. | .eJ .. => false
 | _=>true
def Wi(E:Env)(op:BinOp)(T:TypeId)(u v:AV):Option (Vc×AV) :=
 match ai E.ty T,u,v with
 | some (.slice _,_), .aO ⟨.slice _,xs⟩, .nil=>match op with
  | .eql=>some (.some (1<=xs.length), .aO ⟨.bool,false⟩)
  | .neq=>some (.some (1<=xs.length), .aO ⟨.bool,true⟩)
  | _=>none
 | _,_,_=>none
def Km(n:aH)(i:Nat):AV->Option AV
 | .cT v=>match v.Z9 (.st n) with
  | some y=>match (n.fields y)[i]? with
   | some f=>some (.cT f)
   | none=>none
  | none=>none
 | .ptr id off=>match Nat.blt i n.c9.length with
  | true=>some (.ptr id (off+n.dL i))
  | false=>none
 | .eA id k off=>match Nat.blt i n.c9.length with
  | true=>some (.eA id k (off+n.dL i))
  | false=>none
 | _=>none
def Px(n:aH)(i:Nat):AV->Option AV
 | .aO v=>match v.Z9 (.st n) with
  | some y=>match (n.fields y)[i]? with
   | some f=>some (.aO f)
   | none=>none
  | none=>none
 | .agg cs=>match n.c9[i]? with
  | some τ=>Gk cs (n.dL i) τ
  | none=>none
 | _=>none
def Jk(E:Env)(lk:Nat->Option av)(ev:Operand->AV)(o:Oper):Option (Vc×AV×Option av) :=
 match o.op with
 | .move x=>some (.none,ev x,none)
 | .assign x=>some (.none,ev x,none)
 | .pick c a b=>match ev c with
  | .aO ⟨.bool,true⟩=>some (.none,ev a,none)
  | .aO ⟨.bool,false⟩=>some (.none,ev b,none)
  | _=>none
 | .alloc T=>match o.dst,ai E.ty T with
  | some d,some (τ,_)=>some (.none, .ptr d 0,some (.box (zeroCells τ)))
  | _,_=>none
 | .box T x=>match o.dst,ai E.ty T with
  | some d,some (τ,_)=>match E.ro.contains d with
   | true=>match uP (λ _=>none) τ (ev x) with
    | some y=>some (.none, .cT ⟨τ,y⟩,none)
    | none=>none
   | false=>match cellsOf τ (ev x) with
    | some cs=>some (.none, .ptr d 0,some (.box cs))
    | none=>none
  | _,_=>none
 | .build T parts=>match ai E.ty T with
  | some (.st n,_)=>match partsOf E n (zeroCells (.st n)) (parts.toList.map λ p=>(p.1,ev p.2)) with
   | some cs=>some (.none, .agg cs,none)
   | none=>none
  | _=>none
 | .buildSlice T len parts=>match o.dst,ai E.ty T with
  | some d,some (.slice τ,_,e)=>match Nat.beq parts.size len&&Nat.ble len 1000 with
   | true=>match rX τ 0 (parts.toList.map λ p=>(p.1,ev p.2)) with
    | some xs=>match E.ro.contains d with
     | true=>some (.none, .aO ⟨.slice τ,xs⟩,none)
     | false=>some (.none, .row d,some (.row e τ xs))
    | none=>none
   | false=>none
  | _,_=>none
 | .load T a=>match ai E.ty T with
  | some (τ,_)=>match rC lk τ (ev a) with
   | some v=>some (.none,v,none)
   | none=>none
  | none=>none
 | .nilCheck x=>match ev x with
  | .cT v=>some (.none, .cT v,none)
  | .ptr id off=>some (.none, .ptr id off,none)
  | .eA id i off=>some (.none, .eA id i off,none)
  | _=>none
 | .fieldAddr T x i=>match ai E.ty T with
  | some (.st n,_)=>match n.arr with
   | true=>none
   | false=>match Km n i (ev x) with
    | some v=>some (.none,v,none)
    | none=>none
  | _=>none
 | .field T x i=>match ai E.ty T with
  | some (.st n,_)=>match n.arr with
   | true=>none
   | false=>match Px n i (ev x) with
    | some v=>some (.none,v,none)
    | none=>none
  | _=>none
 | .indexAddr T x ix=>match ai E.ty T with
  | some (
      .slice τ,_)=>match ev ix with
   | .aO ⟨.int _,n⟩=>match ev x with
    | .aO v=>match v.Z9 (.slice τ) with
     | some xs=>some (.some (aJ n xs.length), .cT ⟨τ,xs.getD n.toNat τ.zero⟩,none)
     | none=>none
    | .row id=>match lk id with
     | some (.row _ aU xs)=>match decide (aU=τ) with
      | true=>some (.some (aJ n xs.length), .eA id n.toNat 0,none)
      | false=>none
     | _=>none
    | _=>none
   | _=>none
  | some (.st n,_)=>match n.arr,ev ix with
   | true, .aO ⟨.int _, .ofNat i⟩=>match Km n i (ev x) with
    | some v=>some (.none,v,none)
    | none=>none
   | _,_=>none
  | _=>none
 | .index T x ix=>match ai E.ty T with
  | some (.str,_)=>match ev ix with
   | .aO ⟨.int _,n⟩=>match ev x with
    | .aO ⟨.str,xs⟩=>some (.some (aJ n xs.length), .aO ⟨.int .u8,((xs.getD n.toNat 0).toNat:Int)⟩,none)
    | _=>none
   | _=>none
  | some (.st n,_)=>match n.arr,ev ix with
   | true, .aO ⟨.int _, .ofNat i⟩=>match Px n i (ev x) with
    | some v=>some (.none,v,none)
    | none=>none
   | _,_=>none
  | _=>none
 | .binOp op T x y _=>match Wi E op T (ev x) (ev y) with
  | some (p,v)=>some (p,v,none)
  | none=>match Zu (match ai E.ty T with
   | some (.bool,_)=>true
   | _=>false) (match o.dst with
   | some d=>E.wr.contains d
   | none=>false) op (ev x) (ev y) with
   | some (p,v)=>some (p,v,none)
   | none=>none
 | .unOp op _ x=>match op,ev x with
  | .not, .aO ⟨.bool,b⟩=>some (.none, .aO ⟨.bool,!b⟩,none)
  | .neg, .aO ⟨.int k,n⟩=>some (.some (ca k (-n)), .aO ⟨.int k,-n⟩,none)
  | _,_=>none
 | .convert src dst x=>match ai E.ty src,ai E.ty dst with
  | some (.int _,_),some (.int k,_)=>match ev x with
   | .aO ⟨.int _,n⟩=>some (.some (ca k n), .aO ⟨.int k,n⟩,none)
   | _=>none
  | _,_=>none
 | .slice T x lo hi mx=>match ai E.ty T,mx with
  | some (.slice τ,_),none=>match ev x with
   | .aO v=>match v.Z9 (.slice τ) with
    | some xs=>match oW 0 (lo.map ev),oW (xs.length:Int) (hi.map ev) with
     | some l,some h=>some (.some (ei l h xs.length), .aO ⟨.slice τ,(xs.take h.toNat).drop l.toNat⟩,none)
     | _,_=>none
    | none=>none
   | _=>none
  | some (.str,_),none=>match ev x with
   | .aO ⟨.str,xs⟩=>match oW 0 (lo.map ev),oW (xs.length:Int) (hi.map ev) with
    | some l,some h=>some (.some (ei l h xs.length), .aO ⟨.str,(xs.take h.toNat).drop l.toNat⟩,none)
    | _,_=>none
   | _=>none
  | _,_=>none
 | .extract t i=>match ev t with
  | .hY vs=>match vs[i]? with
   | some v=>some (.none,v,none)
   | none=>none
  | _=>none
 | .makeSlice T l c=>match o.dst,ai E.ty T with
  | some d,some (.slice τ,b,e)=>match ev l,ev c with
   | .aO ⟨.int .i64,n⟩, .aO ⟨.int .i64,m⟩=>some (.some (cY n m b), .row d,some (.row e τ (List.replicate n.toNat τ.zero)))
   | _,_=>none
  | _,_=>none
 | .call c=>match c.callee with
  | .builtin .len=>match c.argTypes.toList,c.args.toList.map ev with
   | [T],[v]=>match ai E.ty T with
    | some (.slice _,_)=>match v with
     | .nil=>some (.none, .aO ⟨.int .i64,(0:Int)⟩,none)
     | .aO ⟨.slice _,xs⟩=>some (.none, .aO ⟨.int .i64,(xs.length:Int)⟩,none)
     | .row id=>match lk id with
      | some (.row _ _ xs)=>some (.none, .aO ⟨.int .i64,(xs.length:Int)⟩,none)
      | _=>none
     | _=>none
    | some (.str,_)=>match v with
     | .aO ⟨.str,xs⟩=>some (.none, .aO ⟨.int .i64,(xs.length:Int)⟩,none)
     | _=>none
    | none=>match v,ai E.K7 T with
     | .mp id,some _=>match lk id with
      | some (.map m)=>some (.none, .aO ⟨.int .i64,(m.n:Int)⟩,none)
      | _=>none
     | _,_=>none
    | _=>none
   | _,_=>none
  | .builtin .append=>match o.dst,c.argTypes.toList with
   | some d,[T,T']=>match Nat.beq T T',ai E.ty T with
    | true,some (.slice τ,b,e)=>match c.args.toList.map ev with
     | [.nil,y]=>match jv (La lk) (.slice τ) y with
      | some ys=>some (.some (bn ys.length b), .row d,some (.row e τ ys))
      | none=>none
     | _=>none
    | _,_=>none
   | _,_=>none
  | .builtin .max=>match c.args.toList.map ev with
   | [.aO ⟨.int k,m⟩, .aO ⟨.int k',n⟩]=>match decide (k'=k) with
    | true=>some (.none, .aO ⟨.int k,(max m n:Int)⟩,none)
    | false=>none
   | _=>none
  | .value (.func f)=>Gc E lk f c.argTypes.toList (c.args.toList.map ev)
  | .value (.tmp t)=>match ev (.tmp t) with
   | .fn f=>Gc E lk f c.argTypes.toList (c.args.toList.map ev)
   | .cO f cs=>Aq E lk (.cO f cs) c.argTypes.toList (c.args.toList.map ev)
   | .il v=>Aq E lk (.il v) c.argTypes.toList (c.args.toList.map ev)
   | _=>none
  | _=>none
 | .makeMap T none=>match o.dst,ai E.K7 T with
  | some d,some (κ,ε)=>some (.none, .mp d,some (.map ⟨κ,ε,jm κ.den ε.den,0⟩))
  | _,_=>none
 | .lookup T x ix ok=>match ai E.K7 T with
  | some (
      κ,ε)=>match ev x,uP (λ _=>none) κ (ev ix) with
   | .mp id,some k=>match lk id with
    | some (.map m)=>match m.Z9 κ ε with
     | some (f,_)=>match ok with
      | true=>some (.none, .hY [.aO ⟨ε,(f k).getD ε.zero⟩, .aO ⟨.bool,(f k).isSome⟩],none)
      | false=>some (.none, .aO ⟨ε,(f k).getD ε.zero⟩,none)
     | none=>none
    | _=>none
   | _,_=>none
  | none=>none
 | .makeFunc fn first captured=>match fn,first.toList,(captured.toList.map ev).all AV.a3W with
  | .func f,[],true=>match captured.toList.map ev with
   | []=>some (.none, .fn f,none)
   | cs=>some (.none, .cO f cs,none)
  | _,_,_=>none
 | _=>none
mutual
def AV.refs(id:Nat):AV->Bool
 | .ptr i _=>Nat.beq i id
 | .row i=>Nat.beq i id
 | .eA i _ _=>Nat.beq i id
 | .aC i=>Nat.beq i id
 | .sub i _ _ _=>Nat.beq i id
 | .eJ i _ _ _=>Nat.beq i id
 | .mp i=>Nat.beq i id
 | .agg cs=>AV.fT id cs
 | .hY cs=>AV.fT id cs
 | .cO _ cs=>AV.fT id cs
 | _=>false
def AV.fT(id:Nat):List AV->Bool
 | []=>false
 | v::r=>match AV.refs id v with
  | true=>true
  | false=>AV.fT id r
end
def AV.kill(id:Nat)(v:AV):AV:=match v.refs id with
 | true => .any
 | false=>v
def av.kill(id:Nat):av->av
 | .box cs => .box (cs.map (AV.kill id))
 | o=>o
def aq.bQ(s:aq)(id:Nat):aq :=
 { aA:=s.aA.map (AV.kill id),aK:=s.aK.map λ p=>(p.1,p.2.kill id) }
def bB(id:Nat):List (Nat×av)->List (Nat×av)
 | []=>[]
 | (k,o)::r=>match Nat.beq k id with
  | true=>bB id r
  | false=>(k,o)::bB id r
def aq.put(s:aq)(d:Option Nat)(v:AV):aq :=
 match d with
 | some d=>{ s with aA:=s.aA.set d v }
 | none=>s
def aq.lay(s:aq)(d:Option Nat)(v:AV)(o:Option av):aq :=
 match o,d with
 | some o,some d =>
  let s':=s.bQ d;{ aA:=s'.aA.set d v,aK:=(d,o.kill d)::bB d s'.aK }
 | _,d=>s.put d v
mutual
def AV.rows:AV->List Nat
 | .row i=>[i]
 | .agg cs=>AV.a0G cs
 | _=>[]
def AV.a0G:List AV->List Nat
 | []=>[]
 | v::r=>AV.rows v++AV.a0G r
end
def Tx(s:aq)(v:AV):List Nat :=
 match v with
 | .ptr id _=>match s.ai id with
  | some (.box cs)=>AV.a0G cs
  | _=>[]
 | v=>v.rows
def a3H(s:aq)(v:AV):List Nat :=
 match v with
 | .cO _ cs=>cs.flatMap (Tx s)
 | v=>Tx s v
def ku(E:Env)(s:aq)(o:Oper):List Nat :=
 match (match o.dst with
  | some d=>E.own.contains d
  | none=>false) with
 | true=>[]
 | false=>match o.op with
 | .buildSlice _ _ parts=>parts.toList.flatMap λ p=>(s.eval p.2).rows
 | .slice _ x _ _ _=>(s.eval x).rows
 | .store _ a x=>match s.eval a with
  | .eA _ _ _=>(s.eval x).rows
  | _=>[]
 | .call c=>match c.callee with
  | .value _=>match E.Mf (match c.callee with
    | .value (.func f)=>f
    | .value (.tmp t)=>match s.eval (.tmp t) with
     | .fn f=>f
     | _=>0
    | _=>0) (match lU E s.ai c.argTypes.toList (c.args.toList.map s.eval) with
     | some Z9=>Z9
     | none=>[]) with
   | some (_,res)=>match res.all TV.flat with
    | true=>[]
    | false=>c.args.toList.flatMap λ x=>a3H s (s.eval x)
   | none=>[]
  | _=>[]
 | _=>[]
mutual
def AV.GQ(id:Nat)(u:AV):AV->AV
 | .row i=>match Nat.beq i id with
  | true=>u
  | false => .row i
 | .eA i k off=>match Nat.beq i id with
  | true => .any
  | false => .eA i k off
 | .agg cs => .agg (AV.QM id u cs)
 | .hY cs => .hY (AV.QM id u cs)
 | .cO f cs => .cO f (AV.QM id u cs)
 | v=>v
def AV.QM(id:Nat)(u:AV):List AV->List AV
 | []=>[]
 | v::r=>AV.GQ id u v::AV.QM id u r
end
def av.GQ(id:Nat)(u:AV):av->av
 | .box cs => .box (AV.QM id u cs)
 | o=>o
mutual
def AV.DT(id:Nat)(u:AV):AV->AV
 | .aC i=>match Nat.beq i id with
  | true=>u
  | false => .aC i
 | .sub i k off z=>match Nat.beq i id with
  | true => .any
  | false => .sub i k off z
 | .eJ i k off z=>match Nat.beq i id with
  | true => .any
  | false => .eJ i k off z
 | .agg cs => .agg (AV.QL id u cs)
 | .hY cs => .hY (AV.QL id u cs)
 | .cO f cs => .cO f (AV.QL id u cs)
 | v=>v
def AV.QL(id:Nat)(u:AV):List AV->List AV
 | []=>[]
 | v::r=>AV.DT id u v::AV.QL id u r
end
def av.DT(id:Nat)(u:AV):av->av
 | .box cs => .box (AV.QL id u cs)
 | o=>o
def aq.freeze(s:aq)(id:Nat):aq :=
 match s.ai id with
 | some (.row _ τ xs) =>
  { aA:=AV.QM id (.aO ⟨.slice τ,xs⟩) s.aA,aK:=(bB id s.aK).map λ p=>(p.1,p.2.GQ id (.aO ⟨.slice τ,xs⟩)) }
 | some (.aC τ xs) =>
  { aA:=AV.QL id (.aO ⟨.slice τ,xs⟩) s.aA,aK:=(bB id s.aK).map λ p=>(p.1,p.2.DT id (.aO ⟨.slice τ,xs⟩)) }
 | _=>s
def Gr(E:Env)(s:aq)(d:Option Nat)(T:TypeId)(m k x:Operand):Option (Vc×aq):=match ai E.K7 T with
 | some (κ,ε)=>match s.eval m,s.eval x with
  | .mp id, .aO v=>match s.ai id,uP (λ _=>none) κ (s.eval k),v.Z9 ε with
   | some (.map m),some k,some x=>match m.Z9 κ ε with
    | some (f,n)=>some (.some (n<1000000000),{ s with aK:=(id, .map ⟨κ,ε,fj f k x,gH (f k) n⟩)::bB id s.aK }.put d .any)
    | none=>none
   | _,_,_=>none
  | _,_=>none
 | none=>none
def Vx(E:Env)(s:aq)(o:Oper):Option (Vc×aq) :=
 match o.op with
 | .mapUpdate T m k x=>Gr E s o.dst T m k x
 | .insert T m k x=>Gr E s o.dst T m k x
 | .store T a x=>match ai E.ty T with
  | some (
      τ,_)=>match s.eval a with
   | .ptr id off=>match s.ai id with
    | some (.box cs)=>match cellsOf τ (s.eval x) with
     | some new=>match putCells cs off new with
      | some dw=>some (.none,{ s with aK:=(id, .box dw)::bB id s.aK }.put o.dst .any)
      | none=>none
     | none=>none
    | _=>none
   | .eA id i 0=>match s.ai id with
    | some (.row e' aU xs)=>match decide (aU=τ),uP (λ _=>none) aU (s.eval x) with
     | true,some x=>some (.none,{ s with aK:=(id, .row e' aU (xs.set i x))::bB id s.aK }.put o.dst .any)
     | _,_=>none
    | _=>none
   | _=>none
  | none=>none
 | .call c=>match c.callee with
  | .builtin .append=>match o.dst,c.argTypes.toList with
   | some d,[T,T']=>match Nat.beq T T',ai E.ty T with
    | true,some (.slice τ,b,e)=>match c.args.toList.map s.eval with
     | [.row id,y]=>match s.ai id,jv (La s.ai) (.slice τ) y with
      | some (.row e' aU xs),some ys=>match Nat.beq e' e,TV.Z9 (.slice τ) ⟨.slice aU,xs⟩ with
       | true,some cK =>
        let s':=s.bQ id;some (.some (bn (cK.length+ys.length) b),{ aA:=s'.aA.set d (.row id),aK:=(id, .row e τ (cK++ys))::bB id s'.aK })
       | _,_=>none
      | _,_=>none
     | _=>none
    | _,_=>none
   | _,_=>none
  | _=>none
 | _=>none
def nodupB:List Nat->Bool
 | []=>true
 | a::r=>match r.contains a with
  | true=>false
  | false=>nodupB r
def cR:Option av->Bool
 | some (.aC ..)=>true
 | _=>false
def kk(id:Nat):TV->AV
 | ⟨.slice _,_⟩ => .aC id
 | ⟨.mv _,_⟩ => .any
 | u => .aO u
def fC(id:Nat):TV->List (Nat×av)
 | ⟨.slice τ,xs⟩=>[(id, .aC τ xs)]
 | _=>[]
def bW:Nat->List TV->List AV
 | _,[]=>[]
 | id,u::r=>kk id u::bW (id+1) r
def bJ:Nat->List TV->List (Nat×av)
 | _,[]=>[]
 | id,u::r=>fC id u++bJ (id+1) r
def iV(id:Nat):TV->AV
 | ⟨.st s,y⟩ => .agg (bW id (s.cells y))
 | v=>kk id v
def Lf:Nat->List TV->List AV
 | _,[]=>[]
 | id,v::r=>iV id v::Lf (id+20) r
def bg:Nat->List TV->List (Nat×av)
 | _,[]=>[]
 | id,v::r=>bJ id v.cells++bg (id+20) r
def jW(id:Nat):List TV->AV
 | [v]=>iV id v
 | vs => .hY (Lf id vs)
def Ty.agg:Ty->Bool
 | .st _=>true
 | _=>false
def Ty.sR:Ty->Bool
 | .int _ | .bool | .str | .ptr=>true
 | _=>false
def Ty.key:Ty->Bool
 | .int _ | .bool | .str=>true
 | _=>false
def Ty.HI:Ty->Bool
 | .st s=>s.arr&&(decide (s.oj=[.int .i64, .int .i64])&&decide (s.c9=[.int .i64, .int .i64]))
 | t=>t.key
def Ty.plain:Ty->Bool
 | .st s=>s.oj.all Ty.sR
 | .slice _=>false
 | .mv _=>false
 | _=>true
def eY(lk:Nat->Option av)(τ:Ty):AV->Option (τ.den×List Nat)
 | .aO v=>match τ.sR,v.Z9 τ with
  | true,some y=>some (y,[])
  | _,_=>none
 | .nil=>match τ with
  | .slice _=>some ([],[])
  | _=>none
 | .aC id=>match lk id with
  | some (.aC aU xs)=>match TV.Z9 τ ⟨.slice aU,xs⟩ with
   | some y=>some (y,[id])
   | none=>none
  | _=>none
 | .row id=>match lk id with
  | some (.row _ aU xs)=>match aU.plain,TV.Z9 τ ⟨.slice aU,xs⟩ with
   | true,some y=>some (y,[id])
   | _,_=>none
  | _=>none
 | _=>none
def LA(lk:Nat->Option av):List AV->List Ty->Option (List TV×List Nat)
 | [],[]=>some ([],[])
 | c::cs,t::ts=>match eY lk t c with
  | some (x,i)=>match LA lk cs ts with
   | some (r,j)=>some (⟨t,x⟩::r,i++j)
   | none=>none
  | none=>none
 | _,_=>none
def Jz(lk:Nat->Option av)(τ:Ty):AV->Option (τ.den×List Nat)
 | .agg cs=>match τ with
  | .st s=>match LA lk cs s.oj with
   | some (l,ids)=>match s.eF l with
    | some y=>some (y,ids)
    | none=>none
   | none=>none
  | _=>none
 | v=>eY lk τ v
mutual
def AV.Lx:AV->Bool
 | .sub .. => true
 | .agg cs=>AV.nY cs
 | .hY cs=>AV.nY cs
 | .cO _ cs=>AV.nY cs
 | _=>false
def AV.nY:List AV->Bool
 | []=>false
 | v::r=>match AV.Lx v with
  | true=>true
  | false=>AV.nY r
end
def AV.cS(v:AV):AV:=match v.Lx with
 | true => .any
 | false=>v
def av.cS:av->av
 | .box cs => .box (cs.map AV.cS)
 | o=>o
def aq.cj(s:aq):aq:={ aA:=s.aA.map AV.cS,aK:=s.aK.map λ p=>(p.1,p.2.cS) }
def aq.gb(s:aq)(id:Nat)(τ:Ty)(xs:List τ.den):aq :=
 { s with aK:=(id, .aC τ xs)::bB id s.aK }
def aq.gone(s:aq)(id:Nat):aq :=
 let s':=s.bQ id
 { s' with aK:=bB id s'.aK }
def nj(τ:Ty)(x:τ.den)(off:Nat)(u:TV):Option τ.den :=
 match τ with
 | .st s=>match (s.cells x)[off]? with
  | some v=>match decide (v.τ=u.τ) with
   | true=>s.eF ((s.cells x).set off u)
   | false=>none
  | none=>none
 | τ=>match Nat.beq off 0 with
  | true=>u.Z9 τ
  | false=>none
def Ty.full:Ty->Ty
 | .mv t => .slice t
 | t=>t
def Ty.a9E:Ty->Ty->Bool
 | .st p, .st q=>decide (p.oj.map Ty.full=q.oj)
 | _,_=>false
def Ty.PC:Ty->Bool
 | .mv _=>true
 | t=>t.sR
def ZU:TV->TV
 | ⟨.mv t,o⟩=>⟨.slice t,Option.getD (α:=List t.den) o []⟩
 | u=>u
def Vw:TV->TV
 | ⟨.mv t,_⟩=>⟨.mv t,(none:Option (List t.den))⟩
 | u=>u
def zU:List TV->Prop
 | []=>True
 | ⟨.mv t,o⟩::r=>Option.isSome (α:=List t.den) o=true/\zU r
 | _::r=>zU r
def a8g(_:aq)(_:Nat)(_:WZ)(_:List AV):Option (Vc×aq):=none
def ZI:Ty->Bool
 | .slice _=>true
 | t=>t.sR
def Mj(id i sz:Nat):Nat->List TV->List AV
 | _,[]=>[]
 | j,u::us=>(match u.τ.sR with
  | true => .aO u
  | false => .sub id i j sz)::Mj id i sz (j+1) us
def Yc(s:aq)(d:Option Nat)(id i off sz:Nat)(τ aU:Ty)(xs:List aU.den):Option (Vc×aq):=match τ with
 | .st q=>match Nat.beq q.size sz&&(Nat.beq off 0&&q.oj.all ZI),TV.Z9 (.st q) ⟨aU,xs.getD i aU.zero⟩ with
  | true,some y=>some (.none,s.put d (.agg (Mj id i sz 0 (q.cells y))))
  | _,_=>none
 | _=>none
def Wn(E:Env)(s:aq)(o:Oper):Option (Vc×aq) :=
 match o.op with
 | .indexAddr T x ix=>match ai E.ty T with
  | some (.slice τ,_)=>match s.eval ix,s.eval x with
   | .aO ⟨.int _,n⟩, .aC id=>match s.ai id with
    | some (.aC aU xs)=>match decide (aU=τ)||aU.a9E τ with
     | true=>some (.some (aJ n xs.length),s.put o.dst (.eJ id n.toNat 0 τ.size))
     | false=>none
    | _=>none
   | _,_=>none
  | _=>none
 | .fieldAddr T x i=>match ai E.ty T with
  | some (.st n,_)=>match s.eval x with
   | .eJ id k off sz=>match !n.arr&&Nat.blt i n.c9.length with
    | true=>some (.none,s.put o.dst (.eJ id k (off+n.dL i) sz))
    | false=>none
   | _=>none
  | _=>none
 | .load T ad=>match ai E.ty T with
  | some (
      τ,_)=>match s.eval ad with
   | .eJ id i off sz=>match s.ai id with
    | some (.aC aU xs)=>match TV.part ⟨aU,xs.getD i aU.zero⟩ off τ,Nat.beq aU.size sz&&(!τ.agg&&Nat.blt off aU.size) with
     | some u,true=>match τ.sR with
      | true=>some (.none,s.put o.dst (.aO u))
      | false=>some (.none,s.put o.dst (.sub id i off sz))
     | _,_=>Yc s o.dst id i off sz τ aU xs
    | _=>none
   | _=>none
  | none=>none
 | .store T ad x=>match ai E.ty T with
  | some (
      τ,_)=>match s.eval ad with
   | .eJ id i off sz=>match s.ai id with
    | some (
        .aC aU xs)=>match Nat.beq aU.size sz&&Nat.blt off aU.size with
     | true=>match τ.sR with
      | true=>match eY (λ _=>none) τ (s.eval x) with
       | some (u,_)=>match TV.part ⟨aU,xs.getD i aU.zero⟩ off τ,nj aU (xs.getD i aU.zero) off ⟨τ,u⟩ with
        | some _,some y=>some (.none,(s.cj.gb id aU (xs.set i y)).put o.dst .any)
        | _,_=>none
       | none=>none
      | false=>match Nat.beq off 0,Jz s.ai τ (s.eval x) with
       | true,some (y,ids)=>match nodupB (id::ids),TV.Z9 aU ⟨τ,y⟩ with
        | true,some y'=>some (.none,((ids.foldl aq.gone s).cj.gb id aU (xs.set i y')).put o.dst .any)
        | _,_=>none
       | _,_=>none
     | false=>none
    | _=>none
   | _=>none
  | none=>none
 | .makeSlice T l cc=>match o.dst,ai E.ty T with
  | some d,some (.slice τ,b,_)=>match E.own.contains d&&(Nat.blt d 50||Nat.ble 100 d) with
   | true=>match s.eval l,s.eval cc with
    | .aO ⟨.int .i64,n⟩, .aO ⟨.int .i64,m⟩=>some (.some (cY n m b),{ aA:=(s.gone d).aA.set d (.aC d),aK:=(d, .aC τ (List.replicate n.toNat τ.zero))::(s.gone d).aK })
    | _,_=>none
   | false=>none
  | _,_=>none
 | .call c=>match c.callee with
  | .builtin .len=>match c.argTypes.toList,c.args.toList.map s.eval with
   | [T],[.aC id]=>match ai E.ty T,s.ai id with
    | some (.slice _,_),some (.aC _ xs)=>some (.none,s.put o.dst (.aO ⟨.int .i64,(xs.length:Int)⟩))
    | _,_=>none
   | _,_=>none
  | .value (
       .func f)=>match o.dst with
   | some d=>match E.own.contains d with
    | true=>match E.mark f with
     | some m=>a8g s d m (c.args.toList.map s.eval)
     | none=>match lU E s.ai c.argTypes.toList (c.args.toList.map s.eval) with
      | some Z9=>match E.Lb f Z9 with
       | some (pre,res)=>match ((bg (100 * (d+1)) res).all λ p=>(s.ai p.1).isNone)&&nodupB ((bg (100 * (d+1)) res).map (·.1)) with
        | true=>some (pre,{ aA:=s.aA.set d (jW (100 * (d+1)) res),aK:=bg (100 * (d+1)) res++s.aK })
        | false=>none
       | none=>none
      | none=>none
    | false=>none
   | none=>none
  | _=>none
 | _=>none
def bD(d:Nat):Nat:=100 * (d+1)
def F4(lk:Nat->Option av)(τ:Ty):Nat->List (Nat×AV)->Option (List τ.den×List Nat)
 | _,[]=>some ([],[])
 | n,(
    i,v)::r=>match Nat.beq i n with
  | true=>match Jz lk τ v with
   | some (x,ids)=>match F4 lk τ (n+1) r with
    | some (xs,js)=>some (x::xs,ids++js)
    | none=>none
   | none=>none
  | false=>none
def aq.rM(s:aq)(d:Nat)(τ:Ty)(xs:List τ.den):aq :=
 { aA:=s.aA.set d (.aC (bD d)),aK:=(bD d, .aC τ xs)::s.aK }
def gA(E:Env)(lk:Nat->Option av):List Bool->List TypeId->List AV->Option (List (Option TV)×List Nat)
 | [],[],[]=>some ([],[])
 | true::fl,T::Ts,v::vs=>match ai E.ty T with
  | some (τ,_)=>match Jz lk τ v with
   | some (x,i)=>match gA E lk fl Ts vs with
    | some (r,j)=>some (some ⟨τ,x⟩::r,i++j)
    | none=>none
   | none=>none
  | none=>none
 | false::fl,_::Ts,_::vs=>match gA E lk fl Ts vs with
  | some (r,j)=>some (none::r,j)
  | none=>none
 | _,_,_=>none
def fg(E:Env)(lk:Nat->Option av):List (Option TV)->List TypeId->List AV->Option (List Arg)
 | [],[],[]=>some []
 | some x::r,_::Ts,_::vs=>match fg E lk r Ts vs with
  | some Z9=>some (.own x::Z9)
  | none=>none
 | none::r,T::Ts,v::vs=>match P7 E lk T v with
  | some x=>match x.Js,fg E lk r Ts vs with
   | true,some Z9=>some (x::Z9)
   | _,_=>none
  | none=>none
 | _,_,_=>none
def Vi(E:Env)(s:aq)(o:Oper):Option (Vc×aq) :=
 match o.dst with
 | some d=>match E.own.contains d with
  | true=>match o.op with
   | .buildSlice T len parts=>match ai E.ty T with
    | some (.slice τ,_)=>match Nat.beq parts.size len&&Nat.ble len 1000 with
     | true=>match F4 s.ai τ 0 (parts.toList.map λ p=>(p.1,s.eval p.2)) with
      | some (xs,ids)=>match nodupB ids,(ids.foldl aq.gone s).ai (bD d) with
       | true,none=>some (.none,(ids.foldl aq.gone s).rM d τ xs)
       | _,_=>none
      | none=>none
     | false=>none
    | _=>none
   | .load T ad=>match ai E.ty T,s.eval ad with
    | some (.st q,_), .eJ id i 0 sz=>match s.ai id with
     | some (.aC (.st p) xs)=>match Nat.beq p.size sz&&p.oj.all Ty.PC,p.eF ((p.cells (xs.getD i (Ty.zero (.st p)))).map Vw),q.eF ((p.cells (xs.getD i (Ty.zero (.st p)))).map ZU) with
      | true,some y,some z=>match ((bJ (bD d) (q.cells z)).all λ e=>(s.ai e.1).isNone)&&nodupB ((bJ (bD d) (q.cells z)).map (·.1)) with
       | true=>some (.some (zU (p.cells (xs.getD i (Ty.zero (.st p))))),{ aA:=s.cj.aA.set d (iV (bD d) ⟨.st q,z⟩),aK:=bJ (bD d) (q.cells z)++(s.cj.gb id (.st p) (xs.set i y)).aK })
       | false=>none
      | _,_,_=>none
     | _=>none
    | _,_=>none
   | .call c=>match c.callee with
    | .builtin .append=>match c.argTypes.toList with
     | [T,T']=>match Nat.beq T T',ai E.ty T with
      | true,some (.slice τ,b,_)=>match c.args.toList.map s.eval with
       | [x,y]=>match eY s.ai (.slice τ) x,eY s.ai (.slice τ) y with
        | some (xs,i),some (ys,j)=>match nodupB (i++j),((i++j).foldl aq.gone s).ai (bD d) with
         | true,none=>some (.some (bn (xs.length+ys.length) b),((i++j).foldl aq.gone s).rM d τ (xs++ys))
         | _,_=>none
        | _,_=>none
       | _=>none
      | _,_=>none
     | _=>none
    | .value (
         .func f)=>match E.tk f with
     | []=>none
     | fl=>match gA E s.ai fl c.argTypes.toList (c.args.toList.map s.eval) with
      | some (own,ids)=>match nodupB ids,fg E (ids.foldl aq.gone s).ai own c.argTypes.toList (c.args.toList.map (ids.foldl aq.gone s).eval) with
       | true,some Z9=>match E.Lb f Z9 with
        | some (pre,res)=>match ((bg (bD d) res).all λ p=>((ids.foldl aq.gone s).ai p.1).isNone)&&nodupB ((bg (bD d) res).map (·.1)) with
         | true=>some (pre,{ aA:=(ids.foldl aq.gone s).aA.set d (jW (bD d) res),aK:=bg (bD d) res++(ids.foldl aq.gone s).aK })
         | false=>none
        | none=>none
       | _,_=>none
      | none=>none
    | _=>none
   | _=>none
  | false=>none
 | none=>none
def ja:List (Option Nat)->List AV->List (Nat×Nat)->Option (List (Nat×Nat))
 | [],[],m=>some m
 | some k::fl,v::vs,m=>match v with
  | .ptr id 0=>match ai m k with
   | some i=>match Nat.beq i id with
    | true=>ja fl vs m
    | false=>none
   | none=>ja fl vs ((k,id)::m)
  | _=>none
 | none::fl,_::vs,m=>ja fl vs m
 | _,_,_=>none
def cQ(lk:Nat->Option av):List CK->List AV->List (Nat×Nat)->Option (List TV×List Nat×List (Nat×Nat))
 | [],[],m=>some ([],[],m)
 | .d τ::ks,v::vs,m=>match jv (λ _=>none) τ v,τ.agg with
  | some x,false=>match cQ lk ks vs m with
   | some (ds,ids,m)=>some (⟨τ,x⟩::ds,ids,m)
   | none=>none
  | _,_=>none
 | .o τ::ks,v::vs,m=>match eY lk τ v,τ.agg with
  | some (x,i),false=>match cQ lk ks vs m with
   | some (ds,ids,m)=>some (⟨τ,x⟩::ds,i++ids,m)
   | none=>none
  | _,_=>none
 | .p j::ks,v::vs,m=>match v with
  | .ptr id 0=>match ai m j with
   | some i=>match Nat.beq i id with
    | true=>cQ lk ks vs m
    | false=>none
   | none=>cQ lk ks vs ((j,id)::m)
  | _=>none
 | _,_,_=>none
def iH(lk:Nat->Option av):List (List CK)->Nat->List (Nat×Nat)->Option (List (List TV)×List Nat×List (Nat×Nat))
 | [],_,m=>some ([],[],m)
 | ks::sh,k,m=>match ai m k with
  | some id=>match lk id with
   | some (.box cs)=>match cQ lk ks cs m with
    | some (ds,i,m)=>match iH lk sh (k+1) m with
     | some (bz,ids,m)=>some (ds::bz,i++ids,m)
     | none=>none
    | none=>none
   | _=>none
  | none=>none
def Wm(lk:Nat->Option av)(ids:List Nat)(id:Nat):Option av:=match ids.contains id with
 | true=>none
 | false=>match lk id with
  | some (.box cs)=>some (.box cs)
  | _=>none
def Kl(sh:List (List CK)):Bool:=sh.all λ ks=>ks.all λ k=>match k with
 | .d (.slice _)=>false
 | .d (.mv _)=>false
 | _=>true
def sLk(sh:List (List CK))(lk:Nat->Option av)(ids:List Nat)(id:Nat):Option av:=match Kl sh with
 | true=>match ids.contains id with
  | true=>none
  | false=>lk id
 | false=>Wm lk ids id
def pH(E:Env)(lk:Nat->Option av):List (Option Nat)->List TypeId->List AV->Option (List Arg)
 | [],[],[]=>some []
 | some k::fl,_::Ts,_::vs=>match pH E lk fl Ts vs with
  | some r=>some (.box k::r)
  | none=>none
 | none::fl,T::Ts,v::vs=>match P7 E lk T v with
  | some x=>match pH E lk fl Ts vs with
   | some r=>some (x::r)
   | none=>none
  | none=>none
 | _,_,_=>none
def bO(m:List (Nat×Nat)):List CK->List AV->List TV->Nat->Option (List AV×List (Nat×av)×Nat)
 | [],[],[],n=>some ([],[],n)
 | .d τ::ks,_::cs,v::ds,n=>match decide (v.τ=τ) with
  | true=>match bO m ks cs ds n with
   | some (r,os,n)=>some (.aO v::r,os,n)
   | none=>none
  | false=>none
 | .o τ::ks,_::cs,v::ds,n=>match decide (v.τ=τ) with
  | true=>match bO m ks cs ds (n+1) with
   | some (r,os,n')=>some (kk n v::r,fC n v++os,n')
   | none=>none
  | false=>none
 | .p j::ks,c::cs,ds,n=>match c with
  | .ptr id 0=>match ai m j with
   | some i=>match Nat.beq i id,bO m ks cs ds n with
    | true,some (r,os,n)=>some (.ptr id 0::r,os,n)
    | _,_=>none
   | none=>none
  | _=>none
 | _,_,_,_=>none
def qS(lk:Nat->Option av)(m:List (Nat×Nat)):List (List CK)->Nat->List (List TV)->Nat->Option (List (Nat×av)×List (Nat×av))
 | [],_,[],_=>some ([],[])
 | ks::sh,k,ds::bz,n=>match ai m k with
  | some id=>match lk id with
   | some (.box cs)=>match bO m ks cs ds n with
    | some (r,os,n)=>match qS lk m sh (k+1) bz n with
     | some (bs,ts)=>some ((id, .box r)::bs,os++ts)
     | none=>none
    | none=>none
   | _=>none
  | none=>none
 | _,_,_,_=>none
def gu:List Nat->List (Nat×av)->List (Nat×av)
 | [],os=>os
 | id::r,os=>gu r (bB id os)
def WQ(E:Env)(s:aq)(d:Nat)(f:FuncId)(Ts:List TypeId)(vs:List AV):Option (Vc×aq) :=
 match vs.reverse with
 | .aC id::rv=>match s.ai id with
  | some (.aC τ xs)=>match pH E (Wm s.ai []) (rv.map λ _=>none) Ts.dropLast rv.reverse with
   | some Z9=>match E.Oo f Z9 τ xs,τ.sR with
    | some (pre,ys),true=>some (pre,(s.cj.gb id τ ys).put (some d) .any)
    | _,_=>none
   | none=>none
  | _=>none
 | _=>none
def WJ(E:Env)(s:aq)(o:Oper):Option (Vc×aq) :=
 match o.dst with
 | some d=>match o.op with
  | .call c=>match c.callee with
   | .value (
        .func f)=>match E.sk f with
    | some sk=>match ja sk.ps (c.args.toList.map s.eval) [] with
     | some m0=>match iH s.ai sk.sh 0 m0 with
      | some (
          bz,ids,m)=>match nodupB ids&&(nodupB (m.map (·.1))&&(nodupB (m.map (·.2))&&Nat.beq m.length sk.sh.length)) with
       | true=>match pH E (sLk sk.sh (ids.foldl aq.gone s).ai (m.map (·.2))) sk.ps c.argTypes.toList (c.args.toList.map (ids.foldl aq.gone s).eval) with
        | some Z9=>match E.UJ f Z9 bz with
         | some (pre,res,dz)=>match qS (ids.foldl aq.gone s).ai m sk.sh 0 dz (bD d+60) with
          | some (bs,ts)=>match ((bg (bD d) res++ts).all λ p=>((ids.foldl aq.gone s).ai p.1).isNone)&&nodupB ((bg (bD d) res++ts).map (·.1)) with
           | true=>some (pre,{ aA:=(ids.foldl aq.gone s).aA.set d (jW (bD d) res),aK:=bs++(bg (bD d) res++ts)++gu (m.map (·.2)) (ids.foldl aq.gone s).aK })
           | false=>none
          | none=>none
         | none=>none
        | none=>none
       | false=>none
      | none=>none
     | none=>none
    | none =>
     match WQ E s d f c.argTypes.toList (c.args.toList.map s.eval) with
     | some r=>some r
     | none =>
      none
   | _=>none
  | _=>none
 | none=>none
def known(v:AV)(K:Prop):Prop :=
 match v with
 | .aO ⟨.int .i64,n⟩=>ag n->K
 | .aO ⟨.slice _,xs⟩=>xs.length<=140737488355328->K
 | .aO ⟨.str,xs⟩=>xs.length<=140737488355328->K
 | _=>K
def Sq:Op->Bool
 | .load .. | .field .. | .index .. | .extract .. => true
 | .call c=>match c.callee with
  | .builtin .append=>false
  | _=>true
 | _=>false
def ti:Option Nat->Bool
 | none=>true
 | some d=>Nat.blt d 400000
def AV.stays:AV->Bool
 | .aO v=>match v.τ with
  | .ptr=>false
  | _=>true
 | .cT _=>true
 | _=>false
def b4p:Bool×TV->AV
 | (true,v) => .cT v
 | (false,v) => .aO v
def Wj(E:Env)(s:aq)(o:Oper):Option (Vc×AV×Option av):=match o.op with
 | .call c=>match c.callee with
  | .value (.func f)=>match o.dst with
   | some d=>match lU E (rD s.ai) c.argTypes.toList (c.args.toList.map s.eval) with
    | some Z9=>match E.RG f Z9 with
     | some (pre, .box cells)=>some (pre, .ptr d 0,some (.box (cells.map .aO)))
     | some (pre, .row e τ xs)=>some (pre, .row d,some (.row e τ xs))
     | some (pre, .res l)=>match (c.args.toList.map s.eval).all AV.stays with
      | true=>some (pre, .hY (l.map b4p),none)
      | false=>none
     | none=>none
    | none=>none
   | none=>none
  | _=>none
 | _=>none
def kH(E:Env)(o:Oper)(K:aq->Prop)(s:aq):Prop :=
 match ti o.dst with
 | false=>False
 | true =>
 let s:=(ku E s o).foldl aq.freeze s;match WJ E s o with
 | some (vc,s')=>vc.and (K s')
 | none=>match Vi E s o with
 | some (vc,s')=>vc.and (K s')
 | none=>match Vx E s o with
 | some (vc,s')=>vc.and (K s')
 | none=>match Wn E s o with
 | some (vc,s')=>vc.and (K s')
 | none=>match Wj E s o with
 | some (vc,v,ob)=>vc.and (K (s.lay o.dst v ob))
 | none=>match Jk E s.ai s.eval o with
  | some (vc,v,ob)=>vc.and (match Sq o.op with
   | true=>known v (K (s.lay o.dst v ob))
   | false=>K (s.lay o.dst v ob))
  | none=>False
def wu(ops:Array Oper)(g:Nat):Option Nat:=(ops[g]?).bind (·.dst)
def eZ(
      E:Env) (ops:Array Oper):List Oper->List (Nat×Bool)->(aq->Prop)->aq->Prop
 | [],_,Q,s=>Q s
 | o::r,kn,Q,s=>match o.guard with
  | none=>kH E o (eZ E ops r kn Q) s
  | some (
      g,want)=>match wu ops g with
   | none=>False
   | some t=>match ai kn t with
    | some b=>match s.eval (.tmp t) with
     | .aO ⟨.bool,b'⟩=>match b' == b,b == want with
      | true,true=>kH E o (eZ E ops r kn Q) s
      | true,false=>eZ E ops r kn Q (s.put o.dst .dY)
      | false,_=>False
     | .dY=>eZ E ops r kn Q (s.put o.dst .dY)
     | _=>False
    | none=>match s.eval (.tmp t) with
     | .aO ⟨.bool,b⟩ =>
      (b=want->kH E o (eZ E ops r ((t,want)::kn) Q) (s.put (some t) (.aO ⟨.bool,want⟩))) /\
      (b = !want->eZ E ops r ((t,!want)::kn) Q ((s.put (some t) (.aO ⟨.bool,!want⟩)).put o.dst .dY))
     | .dY=>eZ E ops r kn Q (s.put o.dst .dY)
     | _=>False
def uZ(acc:List Nat)(s:Nat)(e:Edge):Nat :=
 match Region.binds .any e with
 | true=>s ||| (1 <<< e.on ||| acc.getD e.on 0)
 | false=>s
def bF:List Oper->List Nat->List Nat
 | [],acc=>acc
 | o::r,acc=>bF r (acc++[o.after.toList.foldl (uZ acc) 0])
def nk:List Nat->Nat->Nat->Nat
 | [],_,m=>m
 | b::r,i,m=>match Nat.beq (b+1) (2 ^ i) with
  | true=>nk r (i+1) m
  | false=>nk r (i+1) (i+1)
def ck(ops:List Oper)(k:Nat):Option Nat:=(ops[k]?).bind (·.dst)
def hidden(ops:List Oper)(m bits t:Nat):Bool:=(List.range m).any λ k=>match ck ops k with
 | some d=>match Nat.beq d t with
  | true => !Nat.testBit bits k
  | false=>false
 | none=>false
def SN(ops:List Oper)(m bits:Nat)(s:aq):Operand->AV
 | .tmp t=>match hidden ops m bits t with
  | true => .any
  | false=>s.eval (.tmp t)
 | x=>s.eval x
def O7(ops:List Oper)(m bits:Nat)(s:aq)(id:Nat):Option av:=match hidden ops m bits id with
 | true=>none
 | false=>s.ai id
def vP:Op->Bool
 | .alloc _ | .box .. | .buildSlice .. | .makeSlice .. | .makeMap .. => true
 | .call c=>match c.callee with
  | .builtin .append=>true
  | _=>false
 | _=>false
def aq.fresh(s:aq)(o:Oper):aq :=
 match vP o.op,o.dst with
 | true,some d=>let s':=s.bQ d
  { s' with aK:=bB d s'.aK }
 | _,_=>s
def aq.jj(s:aq)(d:Option Nat)(v:AV)(o:Option av):aq :=
 match d with
 | some d=>{ aA:=s.aA.set d v,aK:=match o with
  | some o=>(d,o)::s.aK
  | none=>s.aK }
 | none=>s
def Lq(E:Env)(ops:List Oper)(m bits:Nat)(o:Oper)(K:aq->Prop)(s:aq):Prop :=
 match ku E s o with
 | []=>match Jk E (O7 ops m bits s) (SN ops m bits s) o with
  | some (vc,v,ob)=>vc.and (K (s.jj o.dst v ob))
  | none=>False
 | _=>False
def ma(
      E:Env) (ops:List Oper) (m:Nat) (bM:List Nat):Nat->List Oper->List (Nat×Bool)->(List (Nat×Bool)->aq->Prop)->aq->Prop
 | _,[],kn,Q,s=>Q kn s
 | i,o::r,kn,Q,s=>match o.guard with
  | none=>Lq E ops m (bM.getD i 0) o (ma E ops m bM (i+1) r kn Q) s
  | some (
      g,want)=>match ck ops g,Nat.testBit (bM.getD i 0) g with
   | some t,true=>match ai kn t with
    | some b=>match s.eval (.tmp t) with
     | .aO ⟨.bool,b'⟩=>match b' == b,b == want with
      | true,true=>Lq E ops m (bM.getD i 0) o (ma E ops m bM (i+1) r kn Q) s
      | true,false=>ma E ops m bM (i+1) r kn Q (s.put o.dst .dY)
      | false,_=>False
     | .dY=>ma E ops m bM (i+1) r kn Q (s.put o.dst .dY)
     | _=>False
    | none=>match s.eval (.tmp t) with
     | .aO ⟨.bool,b⟩ =>
      (b=want->Lq E ops m (bM.getD i 0) o (ma E ops m bM (i+1) r ((t,want)::kn) Q) (s.put (some t) (.aO ⟨.bool,want⟩))) /\
      (b = !want->ma E ops m bM (i+1) r ((t,!want)::kn) Q ((s.put (some t) (.aO ⟨.bool,!want⟩)).put o.dst .dY))
     | .dY=>ma E ops m bM (i+1) r kn Q (s.put o.dst .dY)
     | _=>False
   | _,_=>False
def distinct:List (Option Nat)->Bool
 | []=>true
 | none::_=>false
 | some d::r=>match r.any λ x=>match x with
   | some e=>Nat.beq d e
   | none=>false with
  | true=>false
  | false=>distinct r
def backward(ops:List Oper):Bool:=(List.range ops.length).all λ i=>match ops[i]? with
 | some o=>o.after.toList.all λ e=>match Region.binds .any e with
  | true=>Nat.blt e.on i
  | false=>true
 | none=>true
def u7(ops:List Oper)(s:aq)(K:Prop):Prop :=
 match ops with
 | []=>K
 | o::r=>match Sq o.op,o.dst with
  | true,some d=>known (s.aA.getD d .any) (u7 r s K)
  | _,_=>u7 r s K
def Rg(bM:List Nat)(p:Nat):Bool:=(bM.drop p).all λ b=>Nat.beq (b % 2 ^ p) (2 ^ p - 1)
def Vk(bM:List Nat):List Nat->List Nat
 | []=>[]
 | p::r=>match Rg bM p with
  | true=>p::Vk bM r
  | false=>Vk bM r
def vQ:List (Option Nat)->Bool
 | []=>true
 | none::r=>vQ r
 | some d::r=>match r.any λ x=>match x with
   | some e=>Nat.beq d e
   | none=>false with
  | true=>false
  | false=>vQ r
def EN(l:List Oper)(lo hi:Nat):Bool :=
 ((
  (l.take hi).drop lo).all λ o=>ti o.dst)&&vQ (((l.take hi).drop lo).map (·.dst))&&(l.take lo).all λ o=>match o.dst with
  | none=>true
  | some d => !(((l.take hi).drop lo).any λ p=>match p.dst with
   | some e=>Nat.beq d e
   | none=>false)
def Oper.alone(E:Env)(o:Oper):Bool:=match o.op with
 | .store .. | .mapUpdate .. | .insert .. => true
 | _=>match o.dst with
  | some d=>E.own.contains d
  | none=>false
def xr(u v:TV):Prop:=match u.Z9 v.τ with
 | some x=>x=v.x
 | none=>False
def Wo:Op->Option (List Operand)
 | .move x | .assign x | .nilCheck x | .fieldAddr _ x _ | .load _ x | .box _ x | .extract x _=>some [x]
 | .indexAddr _ x i | .store _ x i | .lookup _ x i _=>some [x,i]
 | .mapUpdate _ m k x | .insert _ m k x=>some [m,k,x]
 | .makeMap _ none=>some []
 | .alloc _=>some []
 | .binOp _ _ x y _=>some [x,y]
 | .build _ ps=>some (ps.toList.map (·.2))
 | .buildSlice _ _ ps=>some (ps.toList.map (·.2))
 | .call c=>match c.callee with
  | .value f=>some (f::c.args.toList)
  | .builtin _=>some c.args.toList
  | _=>none
 | .pick c x y=>some [c,x,y]
 | .slice _ x l h m=>some (x::(l.toList++(h.toList++m.toList)))
 | _=>none
def fP(D:List Nat)(o:Oper):Bool:=match Wo o.op with
 | some l=>l.all λ x=>match x with
  | .tmp t => !D.contains t
  | _=>true
 | none=>false
def reads:Op->Bool
 | .move _ | .nilCheck _ | .fieldAddr .. | .load .. | .indexAddr .. => true
 | _=>false
def rop(E:Env)(s:aq)(o:Oper):Option (Vc×AV):=match reads o.op with
 | true=>match Jk E s.ai s.eval o with
  | some (vc,v,none)=>some (vc,v)
  | _=>none
 | false=>none
def JQ:AV->AV->Prop
 | .aO v, .aO u=>xr v u
 | .cT v, .cT u=>xr v u
 | .aC i, .aC j=>i=j
 | .row i, .row j=>i=j
 | .ptr i p, .ptr j q=>i=j/\p=q
 | .nil, .nil=>True
 | .dY, .dY=>True
 | _,_=>False
def Qa:List AV->List AV->Prop
 | [],[]=>True
 | a::Z9,b::bs=>JQ a b/\Qa Z9 bs
 | _,_=>False
def Ve(a b:AV):Prop:=match a,b with
 | .agg Z9, .agg bs=>Qa Z9 bs
 | a,b=>JQ a b
def gK(E:Env):List (Nat×Oper)->aq->Prop->Prop
 | [],_,K=>K
 | r::rs,s,K=>match r.2.dst,rop E s r.2 with
  | some d,some (vc,v)=>vc.and (Ve v (s.aA.getD d .any)/\gK E rs s K)
  | _,_=>False
def JR(E:Env):List (Nat×Oper)->(aq->Prop)->aq->Prop
 | [],K,s=>K s
 | r::rs,K,s=>match r.2.dst,rop E s r.2 with
  | some d,some (vc,v)=>vc.and (known v (JR E rs K (s.put (some d) v)))
  | _,_=>False
def dstsOf(R:List (Nat×Oper)):List Nat:=R.filterMap λ r=>r.2.dst
def nf:Op->Bool
 | .alloc _=>true
 | _=>false
def jQ:Op->Bool
 | .extract .. => true
 | _=>false
def uR:Op->Bool
 | .buildSlice _ len ps=>Nat.beq len 0&&Nat.beq ps.size 0
 | _=>false
def FW(E:Env)(o:Oper):Bool:=match o.dst with
 | some d=>E.ro.contains d
 | none=>false
def di(E:Env)(o:Oper):Bool:=nf o.op||(jQ o.op||(uR o.op&&FW E o))
def rB(E:Env)(X:List (Nat×Oper)):List Nat:=X.filterMap λ x=>match di E x.2 with
 | true=>x.2.dst
 | false=>none
def xY(s:aq):Op->Bool
 | .extract t i=>match s.eval t with
  | .hY vs=>Nat.blt i vs.length
  | _=>false
 | _=>true
def Wf(E:Env)(bM:List Nat)(X:List (Nat×Oper))(s:aq):Bool:=X.all λ e=>xY s e.2.op||X.any λ y => !di E y.2&&Nat.testBit (bM.getD e.1 0) y.1
def KQ(bM:List Nat)(x:Nat×Oper):List (Nat×Oper)->List (Nat×Oper)
 | []=>[x]
 | y::ys=>match Nat.testBit (bM.getD y.1 0) x.1 with
  | true=>x::y::ys
  | false=>y::KQ bM x ys
def I9(E:Env)(bM:List Nat):List (Nat×Oper)->List (Nat×Oper)
 | []=>[]
 | x::xs=>match di E x.2 with
  | true=>KQ bM x (I9 E bM xs)
  | false=>x::I9 E bM xs
def oR(E:Env)(o:Oper):Bool:=match o.op with
 | .alloc T=>o.dst.isSome&&(ti o.dst&&(ai E.ty T).isSome)
 | .extract .. => o.dst.isSome
 | .buildSlice T len ps => !(Nat.beq len 0&&Nat.beq ps.size 0&&FW E o)||(match o.dst,ai E.ty T with
  | some d,some (.slice _,_)=>Nat.blt d 400000&&(E.ro.contains d && !E.own.contains d)
  | _,_=>false)
 | _=>true
def Qk(E:Env)(bM:List Nat)(X:List (Nat×Oper))(y:Nat×Oper):Bool := !di E y.2&&X.all λ z=>di E z.2 || !Nat.testBit (bM.getD y.1 0) z.1
def Ar(p:Nat×Oper->Bool)(f:Nat×Oper->Prop):List (Nat×Oper)->Prop
 | []=>True
 | y::ys=>match p y with
  | true=>f y/\Ar p f ys
  | false=>Ar p f ys
def ik(E:Env)(bM:List Nat):Nat->List (Nat×Oper)->List (Nat×Oper)->(aq->Prop)->aq->Prop
 | 0,_,X,K,s=>match X with
  | []=>K s
  | _::_=>False
 | n+1,R,X,K,s=>match X with
  | []=>K s
  | x::xs=>match Wf E bM (x::xs) s with
   | true=>match fP (dstsOf (R.filter λ r => !Nat.testBit (bM.getD x.1 0) r.1)++rB E xs) x.2&&xs.all λ y=>di E y.2||Nat.testBit (bM.getD y.1 0) x.1 with
    | true=>kH E x.2 (λ s'=>gK E (R.filter λ r => !Nat.testBit (bM.getD x.1 0) r.1) s' (ik E bM n (R.filter λ r => !Nat.testBit (bM.getD x.1 0) r.1) xs K s')) s
    | false=>match di E x.2 with
     | true=>False
     | false=>Ar (Qk E bM (x::xs)) (λ y=>match fP (dstsOf (R.filter λ r => !Nat.testBit (bM.getD y.1 0) r.1)++rB E ((x::xs).filter λ z => !Nat.beq z.1 y.1)) y.2 with
      | true=>kH E y.2 (λ s'=>gK E (R.filter λ r => !Nat.testBit (bM.getD y.1 0) r.1) s' (ik E bM n (R.filter λ r => !Nat.testBit (bM.getD y.1 0) r.1) ((x::xs).filter λ z => !Nat.beq z.1 y.1) K s')) s
      | false=>False) (x::xs)
   | false=>False
def kY:Nat->List Oper->List (Nat×Oper)
 | _,[]=>[]
 | i,o::r=>(i,o)::kY (i+1) r
def Lm(E:Env)(o:Oper):Bool:=reads o.op&&(match o.dst with
 | some d => !E.own.contains d
 | none=>true)
def my(E:Env)(bM:List Nat)(e8:List (Nat×Oper))(r:Nat×Oper):Bool :=
 Lm E r.2&&e8.all λ y=>Lm E y.2 || !Nat.testBit (bM.getD r.1 0) y.1
def a5n(E:Env)(bM:List Nat)(e8:List (Nat×Oper)):Bool :=
 (e8.all λ r=>r.2.guard.isNone&&oR E r.2)&&e8.all λ r => !(my E bM e8 r||jQ r.2.op)||fP (dstsOf (e8.filter λ y => !Nat.testBit (bM.getD r.1 0) y.1)++bif jQ r.2.op then rB E e8 else []) r.2
def a1k(E:Env)(bM:List Nat)(e8:List (Nat×Oper))(K:aq->Prop)(s:aq):Prop :=
 match a5n E bM e8 with
 | true=>JR E (e8.filter (my E bM e8)) (λ s'=>gK E (e8.filter (my E bM e8)) s' (ik E bM e8.length (e8.filter (my E bM e8)) (I9 E bM (e8.filter λ r => !my E bM e8 r)) K s')) s
 | false=>False
def vK(E:Env)(ops:Array Oper)(l:List Oper)(bM:List Nat):List Nat->Nat->List (Nat×Bool)->(aq->Prop)->aq->Prop
 | [],lo,_,Q,s=>match Nat.beq lo l.length with
  | true=>Q s
  | false=>False
 | hi::r,lo,kn,Q,s=>match Rg bM hi&&(Rg bM lo&&(Nat.blt lo hi&&Nat.ble hi l.length)) with
  | true=>match Nat.beq hi (lo+1) with
   | true=>eZ E ops ((l.take hi).drop lo) kn (vK E ops l bM r hi kn Q) s
   | false=>match EN l lo hi,((l.take hi).drop lo).any (Oper.alone E) with
    | true,true=>a1k E bM (kY lo ((l.take hi).drop lo)) (vK E ops l bM r hi kn Q) s
    | true,false=>ma E l hi bM lo ((l.take hi).drop lo) kn (λ kn s=>u7 ((l.take hi).drop lo) s (vK E ops l bM r hi kn Q s)) (((l.take hi).drop lo).foldl aq.fresh s)
    | false,_=>False
  | false=>False
def Qc(E:Env)(ops:Array Oper)(Q:aq->Prop)(s:aq):Prop :=
 let l:=ops.toList
 let bM:=bF l []
 let m:=nk bM 0 0
 match ((l.take m).all λ o=>ti o.dst)&&(distinct ((l.take m).map (·.dst))&&backward l) with
 | true=>ma E l m bM 0 (l.take m) [] (λ kn s=>u7 (l.take m) s (eZ E ops (l.drop m) kn Q s)) ((l.take m).foldl aq.fresh s)
 | false=>False
def LY(E:Env)(ops:Array Oper)(Q:aq->Prop)(s:aq):Prop :=
 let l:=ops.toList
 let bM:=bF l []
 match (l.take (nk bM 0 0)).any (Oper.alone E) with
 | false=>Qc E ops Q s
 | true=>match backward l with
  | true=>vK E ops l bM (Vk bM ((List.range l.length).map (·+1))) 0 [] Q s
  | false=>False
def W6(E:Env)(ops:Array Oper)(Q:aq->Prop)(s:aq):Prop:=LY E ops Q s
inductive aI:Type 1 where
 | none
 | mk (ι:Type) (P:ι->Prop) (μ:ι->Nat) (fz dead:List Nat) (ins:ι->List (Nat×AV)) (keep:List Nat) (os:ι->List (Nat×av)) (UC ren:List (Nat×Nat)) (sub:ι->Nat->aI)
def aI.a(ι:Type)(P:ι->Prop)(μ:ι->Nat)(dead:List Nat)(ins:ι->List (Nat×AV))(keep:List Nat)(os:ι->List (Nat×av)):aI := .mk ι P μ [] dead ins keep os [] [] λ _ _ => .none
def aI.b(ι:Type)(P:ι->Prop)(μ:ι->Nat)(dead:List Nat)(ins:ι->List (Nat×AV)):aI := .mk ι P μ [] dead ins [] (λ _=>[]) [] [] λ _ _ => .none
def aI.u(P:Prop)(dead:List Nat)(ins:List (Nat×AV))(keep:List Nat)(os:List (Nat×av))(sub:Nat->aI):aI := .mk Unit (λ _=>P) (λ _=>0) [] dead (λ _=>ins) keep (λ _=>os) [] [] λ _=>sub
def fu(k:Nat)(X:aI)(r:Nat->aI)(z:Nat):aI:=match Nat.beq z k with
 | true=>X
 | false=>r z
def cf:Nat->aI:=λ _ => .none
def Code.Bz:Code->List Nat
 | .region _ ops _=>ops.toList.filterMap (·.dst)
 | .seq a b=>Code.Bz a++Code.Bz b
 | .cond _ a b=>Code.Bz a++Code.Bz b
 | .block _ c=>Code.Bz c
 | .loop c=>Code.Bz c
 | .scope c=>Code.Bz c
 | _=>[]
def Code.first:Code->Option Nat
 | .region id _ _=>some id
 | .seq a _=>Code.first a
 | .block _ c=>Code.first c
 | .loop c=>Code.first c
 | .cond _ a _=>Code.first a
 | .ret=>some 500000
 | _=>none
def Code.a8e(Λ:Nat->aI)(b:Code):aI:=match Code.first b with
 | some r=>Λ (r+100000)
 | none => .none
def a2l(sl:List AV):List (Nat×AV)->List AV
 | []=>sl
 | (t,v)::r=>a2l (sl.set t v) r
def MN(keep:List Nat):List (Nat×av)->List (Nat×av)
 | []=>[]
 | (k,o)::r=>match keep.contains k with
  | true=>(k,o)::MN keep r
  | false=>MN keep r
def qC(s:aq)(Bz:List Nat)(ins:List (Nat×AV))(keep:List Nat)(os:List (Nat×av)):aq :=
 { aA:=a2l (Bz.foldl (λ l t=>l.set t .any) s.aA) ins,aK:=os++MN keep s.aK }
def c7(ρ:List (Nat×Nat))(id:Nat):Nat:=match ai ρ id with
 | some k=>k
 | none=>id
def isRow:Option av->Bool
 | some (.row ..)=>true
 | _=>false
def fR:Option av->Bool
 | some (.box _)=>true
 | _=>false
def I3:Option av->Bool
 | some (.map _)=>true
 | _=>false
def AV.uv(ρ:List (Nat×Nat))(s t:aq)(a b:AV):Prop :=
 match b with
 | .any=>True
 | .aO v=>match a with
  | .aO u=>xr u v
  | .nil=>match v with
   | ⟨.slice _,xs⟩=>xs=[]
   | _=>False
  | _=>False
 | .nil=>match a with
  | .nil=>True
  | _=>False
 | .cT v=>match a with
  | .cT u=>xr u v
  | _=>False
 | .ptr id off=>match a with
  | .ptr i o=>match Nat.beq i (c7 ρ id)&&Nat.beq o off&&fR (t.ai id) with
   | true=>True
   | false=>False
  | _=>False
 | .row id=>match a with
  | .row i=>match Nat.beq i (c7 ρ id)&&isRow (t.ai id) with
   | true=>True
   | false=>False
  | .nil=>match isRow (t.ai id),s.ai (c7 ρ id) with
   | true,Option.none=>True
   | _,_=>False
  | _=>False
 | .aC id=>match a with
  | .aC i=>match Nat.beq i (c7 ρ id)&&cR (t.ai id) with
   | true=>True
   | false=>False
  | .nil=>match cR (t.ai id),s.ai (c7 ρ id) with
   | true,Option.none=>True
   | _,_=>False
  | _=>False
 | .fn f=>match a with
  | .fn g=>match Nat.beq f g with
   | true=>True
   | false=>False
  | _=>False
 | .mp id=>match a with
  | .mp i=>match Nat.beq i (c7 ρ id)&&I3 (t.ai id) with
   | true=>True
   | false=>False
  | _=>False
 | _=>False
def Hw(ρ:List (Nat×Nat))(s t:aq):List AV->List AV->Prop
 | [],[]=>True
 | a::Z9,b::bs=>match b with
  | .any=>Hw ρ s t Z9 bs
  | b=>AV.uv ρ s t a b/\Hw ρ s t Z9 bs
 | _,_=>False
def AV.a9i(ρ:List (Nat×Nat))(s t:aq)(a b:AV):Prop :=
 match a,b with
 | .agg Z9, .agg bs=>Hw ρ s t Z9 bs
 | a,b=>AV.uv ρ s t a b
def Xu(ρ:List (Nat×Nat))(s t:aq):List AV->List AV->Prop
 | [],[]=>True
 | a::Z9,b::bs=>match b with
  | .any=>Xu ρ s t Z9 bs
  | b=>AV.a9i ρ s t a b/\Xu ρ s t Z9 bs
 | _,_=>False
def a1D(u v:FV):Prop:=match u.Z9 v.ps v.r with
 | some F=>F=v.F
 | none=>False
def AV.fit(ρ:List (Nat×Nat))(s t:aq)(a b:AV):Prop :=
 match a,b with
 | .cO f Z9, .cO g bs=>match Nat.beq f g with
  | true=>Xu ρ s t Z9 bs
  | false=>False
 | .il u, .il v=>a1D u v
 | .agg Z9, .agg bs=>Hw ρ s t Z9 bs
 | .agg Z9, .aO v=>match uP (λ _=>none) v.τ (.agg Z9) with
  | some x=>x=v.x
  | none=>False
 | a,b=>AV.uv ρ s t a b
def Aw(ρ:List (Nat×Nat))(s t:aq):List AV->List AV->Prop
 | [],[]=>True
 | a::Z9,b::bs=>match b with
  | .any=>Aw ρ s t Z9 bs
  | b=>AV.fit ρ s t a b/\Aw ρ s t Z9 bs
 | _,_=>False
def toO(x:J):np:=⟨x.aj,x.aT,some x.U⟩
def WN(aU:Ty)(ys:List aU.den)(τ:Ty)(xs:List τ.den):Prop :=
 match decide (τ = .st .oExpr),decide (aU = .st .expr) with
 | true,true=>xr ⟨.slice (.st .oExpr),((show Option (List J) from TV.Z9 (.slice (.st .expr)) ⟨.slice aU,ys⟩).getD []).map toO⟩ ⟨.slice τ,xs⟩
 | _,_=>xr ⟨.slice aU,ys⟩ ⟨.slice τ,xs⟩
def a0l(a b:MV):Prop:=match a.Z9 b.κ b.ε with
 | some (f,n)=>f=b.f/\n=b.n
 | none=>False
def kf(ρ:List (Nat×Nat))(s t:aq):List (Nat×av)->Prop
 | []=>True
 | (id, .box bs)::r=>match s.ai (c7 ρ id) with
  | some (.box Z9)=>Hw ρ s t Z9 bs/\kf ρ s t r
  | _=>False
 | (id, .row e τ xs)::r=>match s.ai (c7 ρ id) with
  | some (.row e' aU ys)=>match Nat.beq e e' with
   | true=>xr ⟨.slice aU,ys⟩ ⟨.slice τ,xs⟩/\kf ρ s t r
   | false=>False
  | Option.none=>xs=[]/\kf ρ s t r
  | _=>False
 | (id, .aC τ xs)::r=>match s.ai (c7 ρ id) with
  | some (.aC aU ys)=>WN aU ys τ xs/\kf ρ s t r
  | Option.none=>xs=[]/\kf ρ s t r
  | _=>False
 | (id, .map m)::r=>match s.ai (c7 ρ id) with
  | some (.map m')=>a0l m' m/\kf ρ s t r
  | _=>False
def Fits(ρ:List (Nat×Nat))(s t:aq):Prop :=
 match (nodupB (t.aK.map (·.1))&&nodupB (t.aK.map λ p=>c7 ρ p.1))&&t.aK.all (λ p=>Nat.blt p.1 50||(Nat.ble 100 p.1||(Nat.beq (c7 ρ p.1) p.1&&cR (s.ai p.1))))&&t.aK.all (λ p=>Nat.blt p.1 400000||(!fR (some p.2)||(Nat.beq (c7 ρ p.1) p.1&&fR (s.ai p.1)))) with
 | true=>Aw ρ s t s.aA t.aA/\kf ρ s t t.aK
 | false=>False
def a5w(ρ:List (Nat×Nat))(a b:AV):List (Nat×Nat):=match b with
 | .aC k=>match a with
  | .aC i=>match Nat.beq i (c7 ρ k) with
   | true=>[]
   | false=>[(k,i)]
  | _=>[]
 | _=>[]
def a0w(ρ:List (Nat×Nat)):List AV->List AV->List (Nat×Nat)
 | a::Z9,b::bs=>a5w ρ a b++a0w ρ Z9 bs
 | _,_=>[]
def b1E(ρ:List (Nat×Nat))(a b:AV):List (Nat×Nat):=match b with
 | .agg bs=>match a with
  | .agg Z9=>a0w ρ Z9 bs
  | _=>[]
 | b=>a5w ρ a b
def RX(ρ:List (Nat×Nat)):List AV->List AV->List (Nat×Nat)
 | a::Z9,b::bs=>b1E ρ a b++RX ρ Z9 bs
 | _,_=>[]
def Gt(ρ:List (Nat×Nat))(s:aq):List (Nat×av)->List (Nat×Nat)
 | []=>[]
 | (id, .box bs)::r=>match s.ai (c7 ρ id) with
  | some (.box Z9)=>a0w ρ Z9 bs++Gt ρ s r
  | _=>Gt ρ s r
 | _::r=>Gt ρ s r
def VE:List (Nat×Nat)->(List (Nat×Nat)->Prop)->Prop
 | [],K=>K []
 | (a,b)::r,K=>VE r λ r'=>K ((a,b)::r')
def Ko:∀ {l:List (Nat×Nat)} {K:List (Nat×Nat)->Prop},VE l K->K l
 | [],_,h=>h
 | (a,b)::r,K,h=>Ko (l:=r) (K:=λ r'=>K ((a,b)::r')) h
def PV(ρ:List (Nat×Nat))(s t:aq):Prop:=VE (Gt ρ s t.aK++RX ρ s.aA t.aA) λ r=>Fits (r++ρ) s t
def PV.ex{ρ:List (Nat×Nat)}{s t:aq}(h:PV ρ s t):∃ r,Fits (r++ρ) s t:=⟨_,Ko h⟩
def rU(E:Env):Code->(Nat->aI)->Nat->(Exit->aq->Prop)->aq->Prop
 | .skip,_,_,Q,s=>Q .normal s
 | .region _ ops draw,_,_,Q,s=>match draw with
  | true=>W6 E ops (Q .normal) s
  | false=>eZ E ops ops.toList [] (Q .normal) s
 | .seq a b,Λ,cur,Q,s=>match Code.a8e Λ b with
  | .none=>rU E a Λ cur (λ e s'=>match e with
   | .normal=>rU E b Λ cur Q s'
   | e=>Q e s') s
  | .mk ι P _ fz dead ins keep os UC _ sub =>
   let Bz:=dead++Code.Bz a;rU E a Λ cur (λ e s'=>match e with
    | .normal=>∃ j:ι,P j/\PV UC (fz.foldl aq.freeze s') (qC s Bz (ins j) keep (os j))
    | e=>Q e s') s /\
   ∀ i:ι,P i->rU E b (sub i) cur Q (qC s Bz (ins i) keep (os i))
 | .cond c a b,Λ,cur,Q,s=>match s.eval c with
  | .aO ⟨.bool,t⟩=>(t=true->rU E a Λ cur Q s)/\(t=false->rU E b Λ cur Q s)
  | _=>False
 | .block id c,Λ,_,Q,s=>rU E c Λ id (λ e s'=>match e with
  | .exit i=>match Nat.beq i id with
   | true=>Q .normal s'
   | false=>Q (.exit i) s'
  | e=>Q e s') s
 | .loop c,Λ,cur,Q,s=>match Λ cur with
  | .none=>False
  | .mk ι P μ fz dead ins keep os UC ren sub =>
   let Bz:=dead++Code.Bz c;(∃ i:ι,P i/\PV UC (fz.foldl aq.freeze s) (qC s Bz (ins i) keep (os i))) /\
   ∀ i:ι,P i->rU E c (sub i) cur (λ e s'=>match e with
    | .normal=>∃ j:ι,P j/\μ j<μ i/\PV ren (fz.foldl aq.freeze s') (qC s Bz (ins j) keep (os j))
    | e=>Q e s') (qC s Bz (ins i) keep (os i))
 | .exit id,_,_,Q,s=>Q (.exit id) s
 | .ret,_,_,Q,s=>Q .ret s
 | .label _,_,_,Q,s=>Q .normal s
 | _,_,_,_,_=>False
def Ng(E:Env)(s:aq):List ResultVar->List TypeId->Option (List TV)
 | [],[]=>some []
 | r::rs,T::Ts=>match ai E.ty T with
  | some (τ,_)=>match (match r with
    | .tmp t=>uP (La s.ai) τ (s.eval (.tmp t))
    | .cell a t=>match Nat.beq t T with
     | true=>deref (La s.ai) τ (s.eval (.tmp a))
     | false=>none) with
   | some x=>match Ng E s rs Ts with
    | some l=>some (⟨τ,x⟩::l)
    | none=>none
   | none=>none
  | none=>none
 | _,_=>none
def yN:Arg->AV
 | .val v => .aO v
 | .ref v => .cT v
 | .fn f => .fn f
 | .cO v => .il v
 | .own _ => .any
 | .box _ => .any
def dI(fn:Func)(args:List Arg):aq :=
 { aA:=args.map yN++List.replicate (fn.ntmps - args.length) .any,aK:=[] }
def rh:Nat->List Arg->aq->aq
 | _,[],s=>s
 | p, .own v::r,s=>rh (p+1) r { aA:=s.aA.set p (iV (1000000+100 * p) v),aK:=bJ (1000000+100 * p) v.cells++s.aK }
 | p,_::r,s=>rh (p+1) r s
def Lw(fn:Func)(args:List Arg):aq:=rh 0 args (dI fn args)
def wi(E:Env)(fn:Func)(post:List TV->Prop)(e:Exit)(s:aq):Prop :=
 match e with
 | .ret | .normal=>match Ng E s fn.results.toList fn.resultTypes.toList with
  | some vs=>post vs
  | none=>False
 | _=>False
def tf:List TV->List TV->Prop
 | [],[]=>True
 | [v],[u]=>xr v u
 | v::vs,u::us=>xr v u/\tf vs us
 | _,_=>False
end
def bP(w:World)(b o:Nat)(cs:List Value):Prop:=∀ j v,cs[j]?=some v->w.cell? ⟨b,o+j,none⟩=some v
def D.size:D->Nat
 | .agg ds=>ds.length
 | _=>1
mutual
def Rd(w:World)(S:Nat->Prop):D->List Value->Prop
 | .int k n,cs=>cs=[.int k n]/\k.min<=n/\n<=k.max
 | .bool b,cs=>cs=[.bool b]
 | .str s,cs=>∃ x:ByteArray,cs=[.string x]/\x.data.toList=s/\x.size<=140737488355328
 | .slice _ xs,cs=>∃ a cap,cs=[.slice a xs.length cap]/\xs.length<=cap/\cap<=maxLen/\xs.length<=140737488355328/\(xs=[]\/∃ b o,a=some ⟨b,o,none⟩/\S b/\dh w S xs b o)
 | .agg ds,cs=>cP w S ds cs
 | .hole,cs=>∃ a n m,cs=[.slice a n m]
 | .ptr,cs=>∃ p,cs=[.pointer p]
def cP(w:World)(S:Nat->Prop):List D->List Value->Prop
 | [],cs=>cs=[]
 | d::ds,cs=>∃ v r,cs=v::r/\Rd w S d [v]/\cP w S ds r
def dh(w:World)(S:Nat->Prop):List D->Nat->Nat->Prop
 | [],_,_=>True
 | d::ds,b,o=>(∃ cs,cs.length=d.size/\Rd w S d cs/\bP w b o cs)/\dh w S ds b (o+d.size)
end
def bP.keep{w w':World}{b o:Nat}{cs:List Value}(h:bP w b o cs)(hb:w'.heap[b]?=w.heap[b]?):bP w' b o cs :=
 λ j v hj=>by rw[<-h j v hj];exact b8z (a:=⟨b,o+j,none⟩) hb
mutual
def Rd.keep{w w':World}{S S':Nat->Prop}(hS:∀ b,S b->S' b)(hw:∀ b,S b->w'.heap[b]?=w.heap[b]?):∀ (d:D) {cs:List Value},Rd w S d cs->Rd w' S' d cs
 | .int _ _,_,h=>h
 | .bool _,_,h=>h
 | .str _,_,h=>h
 | .slice _ xs,_,h=>by
  obtain⟨a,cap,h1,h2,h3,h4,h5⟩:=h;refine⟨a,cap,h1,h2,h3,h4,h5.imp id ?_⟩;rintro⟨b,o,ha,hb,hr⟩;exact⟨b,o,ha,hS b hb,dh.keep hS hw xs b o hb hr⟩
 | .agg ds,_,h=>cP.keep hS hw ds h
 | .hole,_,h=>h
 | .ptr,_,h=>h
def cP.keep{w w':World}{S S':Nat->Prop}(hS:∀ b,S b->S' b)(hw:∀ b,S b->w'.heap[b]?=w.heap[b]?):∀ (ds:List D) {cs:List Value},cP w S ds cs->cP w' S' ds cs
 | [],_,h=>h
 | d::ds,_,h=>by
  obtain⟨v,r,h1,h2,h3⟩:=h;exact⟨v,r,h1,Rd.keep hS hw d h2,cP.keep hS hw ds h3⟩
def dh.keep{w w':World}{S S':Nat->Prop}(hS:∀ b,S b->S' b)(hw:∀ b,S b->w'.heap[b]?=w.heap[b]?):∀ (ds:List D) (b o:Nat),S b->dh w S ds b o->dh w' S' ds b o
 | [],_,_,_,_=>trivial
 | d::ds,b,o,hb,h=>by
  obtain⟨⟨cs,h1,h2,h3⟩,h4⟩:=h;exact⟨⟨cs,h1,Rd.keep hS hw d h2,h3.keep (hw b hb)⟩,dh.keep hS hw ds b _ hb h4⟩
end
def cP.length{w:World}{S:Nat->Prop}:∀ (ds:List D) {cs:List Value},cP w S ds cs->cs.length=ds.length
 | [],_,h=>by rw[show _=[] from h];rfl
 | d::ds,_,h=>by
  obtain⟨v,r,rfl,_,h3⟩:=h;simp[cP.length ds h3]
def Rd.length{w:World}{S:Nat->Prop}(d:D){cs:List Value}(h:Rd w S d cs):cs.length=d.size:=by
 cases d with
 | int k n=>rw[h.1];rfl
 | bool b=>rw[show cs=_ from h];rfl
 | str s=>obtain⟨x,h,_⟩:=h;rw[h];rfl
 | slice n xs=>obtain⟨a,cap,h,_⟩:=h;rw[h];rfl
 | agg ds=>exact cP.length ds h
 | hole=>obtain⟨a,n,m,h⟩:=h;rw[h];rfl
 | ptr=>obtain⟨p,h⟩:=h;rw[h];rfl
def Ty.cA(t:Ty)(x:t.den):(t.aL x).size=t.size:=by
 cases t with
 | st s=>simp[Ty.aL,aH.bT,D.size,Ty.size,aH.gm]
 | mv t=>cases (show Option (List t.den) from x)<;>rfl
 | _=>rfl
def dh.at_{w:World}{S:Nat->Prop}{n:Nat}:∀ (ds:List D) (b o:Nat),dh w S ds b o->(∀ d∈ds,d.size=n)->∀ i d,ds[i]?=some d ->
  ∃ cs,cs.length=n/\Rd w S d cs/\bP w b (o+i * n) cs
 | [],_,_,_,_,i,d,h=>by simp at h
 | e::ds,b,o,h,hn,0,d,hi=>by
  obtain⟨⟨cs,h1,h2,h3⟩,_⟩:=h;simp at hi;subst hi;exact⟨cs,by rw[h1];exact hn _ (by simp),h2,by simpa using h3⟩
 | e::ds,b,o,h,hn,i+1,d,hi=>by
  obtain⟨_,h4⟩:=h;rw[hn e (by simp)] at h4;obtain⟨cs,h1,h2,h3⟩:=dh.at_ ds b (o+n) h4 (λ d hd=>hn d (by simp[hd])) i d (by simpa using hi);exact⟨cs,h1,h2,by rw[show o+(i+1) * n=o+n+i * n by rw[Nat.add_mul];omega];exact h3⟩
def dh.a4i{w:World}{S:Nat->Prop}{n:Nat}:∀ (k:Nat) (ds:List D) (b o:Nat),dh w S ds b o->(∀ d∈ds,d.size=n)->dh w S (ds.drop k) b (o+k * n)
 | 0,ds,b,o,h,_=>by simpa using h
 | k+1,[],b,o,h,_=>by simp[dh]
 | k+1,d::ds,b,o,h,hn=>by
  have:=dh.a4i k ds b (o+n) (by have:=h.2;rwa [hn d (by simp)] at this) (λ d hd=>hn d (by simp[hd]));rw[show o+(k+1) * n=o+n+k * n by rw[b6V];omega];exact this
def dh.a6j{w:World}{S:Nat->Prop}:∀ (k:Nat) (ds:List D) (b o:Nat),dh w S ds b o->dh w S (ds.take k) b o
 | 0,ds,b,o,h=>by simp[dh]
 | k+1,[],b,o,h=>by simp[dh]
 | k+1,d::ds,b,o,h=>⟨h.1,dh.a6j k ds b _ h.2⟩
def dP(w:World)(S:Nat->Prop):List D->List Value->Prop
 | [],l=>l=[]
 | d::ds,l=>∃ c r,l=c++r/\Rd w S d c/\dP w S ds r
def dP.keep{w w':World}{S S':Nat->Prop}(hS:∀ b,S b->S' b)(hw:∀ b,S b->w'.heap[b]?=w.heap[b]?):∀ (ds:List D) {l:List Value},dP w S ds l->dP w' S' ds l
 | [],_,h=>h
 | d::ds,_,h=>by
  obtain⟨c,r,h1,h2,h3⟩:=h;exact⟨c,r,h1,Rd.keep hS hw d h2,dP.keep hS hw ds h3⟩
def dP.append{w:World}{S:Nat->Prop}:∀ (ds es:List D) {l m:List Value},dP w S ds l->dP w S es m->dP w S (ds++es) (l++m)
 | [],_,_,_,h,k=>by rw[show _=[] from h];simpa using k
 | d::ds,es,_,m,h,k=>by
  obtain⟨c,r,rfl,h2,h3⟩:=h;exact⟨c,r++m,by simp,h2,dP.append ds es h3 k⟩
def dP.length{w:World}{S:Nat->Prop}{n:Nat}:∀ (ds:List D) {l:List Value},dP w S ds l->(∀ d∈ds,d.size=n)->l.length=ds.length * n
 | [],_,h,_=>by rw[show _=[] from h];simp
 | d::ds,_,h,hn=>by
  obtain⟨c,r,rfl,h2,h3⟩:=h;rw[b5Y,Rd.length d h2,hn d (by simp),dP.length ds h3 (λ d hd=>hn d (by simp[hd])),b5S,b6V];omega
def dP.row{w:World}{S:Nat->Prop}:∀ (ds:List D) {l:List Value} (b o:Nat),dP w S ds l->bP w b o l->dh w S ds b o
 | [],_,_,_,_,_=>trivial
 | d::ds,_,b,o,h,hc=>by
  obtain⟨c,r,rfl,h2,h3⟩:=h;refine⟨⟨c,Rd.length d h2,h2,λ j v hj=>hc j v ?_⟩,dP.row ds b _ h3 λ j v hj=>?_⟩
  .rw[b6X]
   .exact hj
   .exact (b6o.1 hj).1
  .have:=hc (c.length+j) v (by rw[List.getElem?_append_right (by omega)];simpa using hj);rwa [Rd.length d h2,<-Nat.add_assoc] at this
def dh.cells{w:World}{S:Nat->Prop}:∀ (ds:List D) (b o:Nat),dh w S ds b o->∃ l,dP w S ds l/\bP w b o l
 | [],_,_,_=>⟨[],rfl,λ j v h=>by simp at h⟩
 | d::ds,b,o,h=>by
  obtain⟨⟨c,h1,h2,h3⟩,h4⟩:=h;obtain⟨r,h5,h6⟩:=dh.cells ds b _ h4;refine⟨c++r,⟨c,r,rfl,h2,h5⟩,λ j v hj=>?_⟩;rcases b6E j c.length with bp|VT
  .exact h3 j v (by rwa [b6X bp] at hj)
  .rw[b7Q VT] at hj;have:=h6 (j - c.length) v hj;rwa [<-h1,show o+c.length+(j - c.length)=o+j by omega] at this
def dP.at_{w:World}{S:Nat->Prop}{n:Nat}:∀ (ds:List D) {l:List Value},dP w S ds l->(∀ d∈ds,d.size=n)->∀ i d,ds[i]?=some d->Rd w S d ((l.drop (i * n)).take n)
 | [],_,_,_,i,d,h=>by simp at h
 | e::ds,_,h,hn,0,d,hi=>by
  obtain⟨c,r,rfl,h2,h3⟩:=h;simp at hi;subst hi;have:c.length=n:=by rw[Rd.length _ h2];exact hn _ (by simp)
  simpa [<-this] using h2
 | e::ds,_,h,hn,i+1,d,hi=>by
  obtain⟨c,r,rfl,h2,h3⟩:=h;have hc:c.length=n:=by rw[Rd.length _ h2];exact hn _ (by simp)
  have:=dP.at_ ds h3 (λ d hd=>hn d (by simp[hd])) i d (by simpa using hi);have h0:List.drop (n+i * n) c=[]:=List.drop_eq_nil_of_le (by omega);rw[show (i+1) * n=n+i * n by rw[Nat.add_mul];omega,List.drop_append,h0,List.nil_append,show n+i * n - c.length=i * n by omega];exact this
def tU:Value->Bool
 | .int .. | .bool _ | .string _ | .slice .. | .pointer _=>true
 | _=>false
def D.leaf:D->Bool
 | .agg _=>false
 | _=>true
def Rd.tU{w:World}{S:Nat->Prop}{d:D}(hd:d.leaf=true){cs:List Value}(h:Rd w S d cs):∃ v,cs=[v]/\YtlpndogmpcolnaaGreatDoor.tU v=true:=by
 cases d with
 | int k n=>exact⟨_,h.1,rfl⟩
 | bool b=>exact⟨_,h,rfl⟩
 | str s=>obtain⟨x,h,_⟩:=h;exact⟨_,h,rfl⟩
 | slice n xs=>obtain⟨a,cap,h,_⟩:=h;exact⟨_,h,rfl⟩
 | agg ds=>cases hd
 | hole=>obtain⟨a,n,m,h⟩:=h;exact⟨_,h,rfl⟩
 | ptr=>obtain⟨p,h⟩:=h;exact⟨_,h,rfl⟩
def yz{v:Value}(h:YtlpndogmpcolnaaGreatDoor.tU v=true):v.oneCell'=true:=by cases v<;>first|rfl|cases h
def KY{v:Value}(h:YtlpndogmpcolnaaGreatDoor.tU v=true):v.cells = #[v]:=by cases v<;>first|rfl|cases h
def M4{α:Type}(n:Nat)(f:α->D)(o:Option (List α)):(mvD n f o).leaf=true:=by cases o<;>rfl
def aH.oA(s:aH)(x:s.den):∀ v∈s.cells x,v.aL.leaf=true:=by
 cases s<;>simp[aH.cells,TV.aL,Ty.aL,D.leaf]<;>exact M4 _ _ _
mutual
def Ow(w:World):D->List Value->List Nat->Prop
 | .int k n,cs,fp=>(cs=[.int k n]/\k.min<=n/\n<=k.max)/\fp=[]
 | .bool b,cs,fp=>cs=[.bool b]/\fp=[]
 | .str s,cs,fp=>(∃ x:ByteArray,cs=[.string x]/\x.data.toList=s/\x.size<=140737488355328)/\fp=[]
 | .slice n xs,cs,fp=>∃ a cap,cs=[.slice a xs.length cap]/\xs.length<=cap/\cap<=maxLen/\xs.length<=140737488355328 /\
   ((xs=[]/\(a=none/\cap=0)/\fp=[])\/∃ b f l t,a=some ⟨b,0,none⟩/\fp=b::f/\w.heap[b]?=some (.cells l.toArray t (0,0))/\l.length=cap * n/\bI w xs l f)
 | .agg ds,cs,fp=>cW w ds cs fp
 | .hole,cs,fp=>(∃ a n m,cs=[.slice a n m])/\fp=[]
 | .ptr,cs,fp=>(∃ p,cs=[.pointer p])/\fp=[]
def cW(w:World):List D->List Value->List Nat->Prop
 | [],cs,fp=>cs=[]/\fp=[]
 | d::ds,cs,fp=>∃ v r f1 f2,cs=v::r/\fp=f1++f2/\Ow w d [v] f1/\cW w ds r f2
def bI(w:World):List D->List Value->List Nat->Prop
 | [],_,fp=>fp=[]
 | d::ds,l,fp=>∃ c r f1 f2,l=c++r/\fp=f1++f2/\Ow w d c f1/\bI w ds r f2
end
def cW.length{w:World}:∀ (ds:List D) {cs:List Value} {fp:List Nat},cW w ds cs fp->cs.length=ds.length
 | [],_,_,h=>by rw[h.1];rfl
 | d::ds,_,_,h=>by
  obtain⟨v,r,f1,f2,rfl,_,_,h4⟩:=h;simp[cW.length ds h4]
def Ow.length{w:World}(d:D){cs:List Value}{fp:List Nat}(h:Ow w d cs fp):cs.length=d.size:=by
 cases d with
 | int k n=>rw[h.1.1];rfl
 | bool b=>rw[h.1];rfl
 | str s=>obtain⟨⟨x,h,_⟩,_⟩:=h;rw[h];rfl
 | slice n xs=>obtain⟨a,cap,h,_⟩:=h;rw[h];rfl
 | agg ds=>exact cW.length ds h
 | hole=>obtain⟨⟨a,n,m,h⟩,_⟩:=h;rw[h];rfl
 | ptr=>obtain⟨⟨p,h⟩,_⟩:=h;rw[h];rfl
def Eu{w:World}{b:Nat}{p c r:List Value}{t:TypeId}(h:w.heap[b]?=some (.cells (p++(c++r)).toArray t (0,0))):bP w b p.length c:=by
 intro j v hj;have hl:j<c.length:=(b6o.1 hj).1;have h2:(p++(c++r))[p.length+j]?=some v:=by
  rw[b7Q (by omega),b8m,b6X hl];exact hj
 simp[World.cell?,h,h2]
mutual
def Ow.rd{w:World}{S:Nat->Prop}:∀ (d:D) {cs:List Value} {fp:List Nat},Ow w d cs fp->(∀ b∈fp,S b)->Rd w S d cs
 | .int _ _,_,_,h,_=>h.1
 | .bool _,_,_,h,_=>h.1
 | .str _,_,_,h,_=>h.1
 | .slice n xs,_,_,h,hS=>by
  obtain⟨a,cap,h1,h2,h3,h4,h5⟩:=h;refine⟨a,cap,h1,h2,h3,h4,h5.imp And.left ?_⟩;rintro⟨b,f,l,t,rfl,rfl,hb,_,hr⟩;exact⟨b,0,rfl,hS b (by simp),bI.rd xs (p:=[]) (by simpa using hb) hr (λ b hb=>hS b (by simp[hb]))⟩
 | .agg ds,_,_,h,hS=>cW.rd ds h hS
 | .hole,_,_,h,_=>h.1
 | .ptr,_,_,h,_=>h.1
def cW.rd{w:World}{S:Nat->Prop}:∀ (ds:List D) {cs:List Value} {fp:List Nat},cW w ds cs fp->(∀ b∈fp,S b)->cP w S ds cs
 | [],_,_,h,_=>h.1
 | d::ds,_,_,h,hS=>by
  obtain⟨v,r,f1,f2,h1,rfl,h3,h4⟩:=h;exact⟨v,r,h1,Ow.rd d h3 λ b hb=>hS b (by simp[hb]),cW.rd ds h4 λ b hb=>hS b (by simp[hb])⟩
def bI.rd{w:World}{S:Nat->Prop}{b:Nat}{t:TypeId}:∀ (ds:List D) {p l:List Value} {fp:List Nat},w.heap[b]?=some (.cells (p++l).toArray t (0,0))->bI w ds l fp->(∀ b∈fp,S b)->dh w S ds b p.length
 | [],_,_,_,_,_,_=>trivial
 | d::ds,p,_,_,hb,h,hS=>by
  obtain⟨c,r,f1,f2,rfl,rfl,h3,h4⟩:=h;have hl:=Ow.length d h3;refine⟨⟨c,hl,Ow.rd d h3 λ b hb=>hS b (by simp[hb]),Eu hb⟩,?_⟩;have:=bI.rd ds (p:=p++c) (l:=r) (by simpa using hb) h4 (λ b hb=>hS b (by simp[hb]));rw[<-hl];simpa using this
end
mutual
def Ow.keep{w w':World}:∀ (d:D) {cs:List Value} {fp:List Nat},Ow w d cs fp->(∀ b∈fp,w'.heap[b]?=w.heap[b]?)->Ow w' d cs fp
 | .int _ _,_,_,h,_=>h
 | .bool _,_,_,h,_=>h
 | .str _,_,_,h,_=>h
 | .slice n xs,_,_,h,hw=>by
  obtain⟨a,cap,h1,h2,h3,h4,h5⟩:=h;refine⟨a,cap,h1,h2,h3,h4,h5.imp id ?_⟩;rintro⟨b,f,l,t,rfl,rfl,hb,hc,hr⟩;exact⟨b,f,l,t,rfl,rfl,by rw[hw b (by simp)];exact hb,hc,bI.keep xs hr λ b hb=>hw b (by simp[hb])⟩
 | .agg ds,_,_,h,hw=>cW.keep ds h hw
 | .hole,_,_,h,_=>h
 | .ptr,_,_,h,_=>h
def cW.keep{w w':World}:∀ (ds:List D) {cs:List Value} {fp:List Nat},cW w ds cs fp->(∀ b∈fp,w'.heap[b]?=w.heap[b]?)->cW w' ds cs fp
 | [],_,_,h,_=>h
 | d::ds,_,_,h,hw=>by
  obtain⟨v,r,f1,f2,h1,rfl,h3,h4⟩:=h;exact⟨v,r,f1,f2,h1,rfl,Ow.keep d h3 λ b hb=>hw b (by simp[hb]),cW.keep ds h4 λ b hb=>hw b (by simp[hb])⟩
def bI.keep{w w':World}:∀ (ds:List D) {l:List Value} {fp:List Nat},bI w ds l fp->(∀ b∈fp,w'.heap[b]?=w.heap[b]?)->bI w' ds l fp
 | [],_,_,h,_=>h
 | d::ds,_,_,h,hw=>by
  obtain⟨c,r,f1,f2,h1,rfl,h3,h4⟩:=h;exact⟨c,r,f1,f2,h1,rfl,Ow.keep d h3 λ b hb=>hw b (by simp[hb]),bI.keep ds h4 λ b hb=>hw b (by simp[hb])⟩
end
mutual
def D.light:D->Bool
 | .slice .. => false
 | .agg ds=>D.Gp ds
 | _=>true
def D.Gp:List D->Bool
 | []=>true
 | d::ds=>d.light&&D.Gp ds
end
mutual
def Ow.eV{w:World}{S:Nat->Prop}:∀ (d:D) {cs:List Value},d.light=true->Rd w S d cs->Ow w d cs []
 | .int _ _,_,_,h=>⟨h,rfl⟩
 | .bool _,_,_,h=>⟨h,rfl⟩
 | .str _,_,_,h=>⟨h,rfl⟩
 | .slice n xs,_,hl,h=>by
  obtain⟨a,cap,h1,h2,h3,h4,h5⟩:=h;cases hl
 | .agg ds,_,hl,h=>cW.eV ds hl h
 | .hole,_,_,h=>⟨h,rfl⟩
 | .ptr,_,_,h=>⟨h,rfl⟩
def cW.eV{w:World}{S:Nat->Prop}:∀ (ds:List D) {cs:List Value},D.Gp ds=true->cP w S ds cs->cW w ds cs []
 | [],_,_,h=>⟨h,rfl⟩
 | d::ds,_,hl,h=>by
  obtain⟨v,r,h1,h2,h3⟩:=h;simp only[D.Gp,b5M] at hl;exact⟨v,r,[],[],h1,rfl,Ow.eV d hl.1 h2,cW.eV ds hl.2 h3⟩
end
def bI.eV{w:World}{S:Nat->Prop}:∀ (ds:List D) {l m:List Value},(∀ d∈ds,d.light=true)->dP w S ds l->bI w ds (l++m) []
 | [],_,_,_,_=>rfl
 | d::ds,_,m,hl,h=>by
  obtain⟨c,r,rfl,h2,h3⟩:=h;exact⟨c,r++m,[],[],by simp,rfl,Ow.eV d (hl d (by simp)) h2,bI.eV ds (λ d hd=>hl d (by simp[hd])) h3⟩
def Ht{α:Type}(c r:List α)(k:Nat):(c++r).drop (c.length+k)=r.drop k:=by
 rw[<-b7J,b8g]
def zP{α:Type}(c r:List α)(k:Nat):(c++r).take (c.length+k)=c++r.take k:=by
 rw[b9s,b6J (by omega),b8m]
def bI.split{w:World}{n:Nat}:∀ (ds:List D) {l:List Value} {fp:List Nat} (i:Nat) (d:D),bI w ds l fp->(∀ d∈ds,d.size=n)->ds[i]?=some d ->
  ∃ f0 f1 f2,fp=f0++f1++f2/\i * n+n<=l.length/\Ow w d ((l.drop (i * n)).take n) f1 /\
   ∀ (w':World) (d':D) (c':List Value) (jc:List Nat),(∀ b∈f0++f2,w'.heap[b]?=w.heap[b]?)->c'.length=n->Ow w' d' c' jc->bI w' (ds.set i d') (l.take (i * n)++c'++l.drop (i * n+n)) (f0++jc++f2)
 | [],_,_,_,_,_,_,h=>by simp at h
 | e::ds,l,fp,0,d,h,hn,hi=>by
  obtain⟨c,r,f1,f2,rfl,rfl,h3,h4⟩:=h;simp at hi;subst hi;have hc:c.length=n:=by rw[Ow.length _ h3];exact hn _ (by simp)
  refine⟨[],f1,f2,by simp,by simp;omega,?_,λ w' d' c' jc hw SS DW=>?_⟩
  .simp only[b8T,b8h];rw[<-hc,b8a];exact h3
  .simp only[b8T,b7K,b6B,b7P,List.set_cons_zero];rw[<-hc,b8g];exact⟨c',r,jc,f2,rfl,rfl,DW,bI.keep ds h4 λ b hb=>hw b (by simp[hb])⟩
 | e::ds,l,fp,i+1,d,h,hn,hi=>by
  obtain⟨c,r,g1,g2,rfl,rfl,h3,h4⟩:=h;have hc:c.length=n:=by rw[Ow.length _ h3];exact hn _ (by simp)
  obtain⟨f0,f1,f2,rfl,hlen,k1,k2⟩:=bI.split ds i d h4 (λ d hd=>hn d (by simp[hd])) (by simpa using hi);have e1:(i+1) * n=c.length+i * n:=by rw[hc,Nat.add_mul];omega
  have e2:(i+1) * n+n=c.length+(i * n+n):=by omega
  refine⟨g1++f0,f1,f2,by simp,by simp;omega,?_,λ w' d' c' jc hw SS DW=>?_⟩
  .rw[e1,Ht];exact k1
  .rw[e1,show c.length+i * n+n=c.length+(i * n+n) by omega,zP,Ht];have:=k2 w' d' c' jc (λ b hb=>hw b (by simp at hb ⊢;rcases hb with hb|hb<;>simp[hb])) SS DW;rw[show (e::ds).set (i+1) d'=e::ds.set i d' from rfl];exact⟨c,r.take (i * n)++c'++r.drop (i * n+n),g1,f0++jc++f2,by simp,by simp,Ow.keep e h3 λ b hb=>hw b (by simp[hb]),this⟩
open Go.MapKept
def oL(τ:Ty)(x:τ.den)(v:Value):Prop:=∀ (w:World) (S:Nat->Prop),Rd w S (τ.aL x) [v]
theorem oL.of{τ:Ty}(eN:τ.key=true){x:τ.den}{v:Value}{w:World}{S:Nat->Prop}(h:Rd w S (τ.aL x) [v]):oL τ x v:=by
 intro w' S';cases τ with
 | int k=>exact h
 | bool=>exact h
 | str=>exact h
 | _=>cases eN
theorem oL.val{τ:Ty}(eN:τ.key=true){x y:τ.den}{v:Value}(h:oL τ x v)(k:oL τ y v)(w:World):x=y:=by
 have h:=h w (λ _=>False);have k:=k w (λ _=>False);cases τ with
 | int q =>
  simp only[Ty.aL,Rd,List.cons.injEq,and_true] at h k;obtain⟨rfl,_⟩:=h;exact (by simpa using k.1)
 | bool =>
  simp only[Ty.aL,Rd,List.cons.injEq,and_true] at h k;subst h;simpa using k
 | str =>
  obtain⟨a,h1,h2,_⟩:=h;obtain⟨b,k1,k2,_⟩:=k;simp only[b5J,b5W] at h1 k1;subst h1;simp only[Value.string.injEq] at k1;subst k1;exact h2.symm.trans k2
 | _=>cases eN
theorem oL.inj{τ:Ty}(eN:τ.key=true){x:τ.den}{v u:Value}(h:oL τ x v)(k:oL τ x u)(w:World):v=u:=by
 have h:=h w (λ _=>False);have k:=k w (λ _=>False);cases τ with
 | int q =>
  simp only[Ty.aL,Rd,b5J,b5W] at h k;exact h.1.trans k.1.symm
 | bool =>
  simp only[Ty.aL,Rd,b5J,b5W] at h k;exact h.trans k.symm
 | str =>
  obtain⟨⟨⟨a⟩⟩,h1,h2,_⟩:=h;obtain⟨⟨⟨b⟩⟩,k1,k2,_⟩:=k;simp only[b5J,b5W] at h1 k1;simp only at h2 k2;rw[h1,k1,h2,k2]
 | _=>cases eN
def Bu:(τ:Ty)->τ.den->Value->Prop
 | .st s,x,v=>∃ a b:Int,s.cells x=[⟨.int .i64,a⟩,⟨.int .i64,b⟩]/\v = .agg #[.int .i64 a, .int .i64 b]/\(ag a/\ag b)
 | τ,x,v=>oL τ x v
theorem Bu.sc{τ:Ty}(eN:τ.key=true){x:τ.den}{v:Value}:Bu τ x v↔oL τ x v:=by
 cases τ<;>first|exact b7k|cases eN
theorem Bu.val{τ:Ty}(eN:τ.HI=true){x y:τ.den}{v:Value}(h:Bu τ x v)(k:Bu τ y v)(w:World):x=y:=by
 cases τ with
 | st s =>
  obtain⟨a,b,h1,rfl,_⟩:=h;obtain⟨a',b',k1,k2,_⟩:=k;simp only[b9H,Array.mk.injEq,b5J,Value.int.injEq,b6t,b5W] at k2;obtain⟨rfl,rfl⟩:=k2;simp only[Ty.HI,b5M] at eN;exact aH.a3I s eN.1 (h1.trans k1.symm)
 | int q=>exact oL.val (τ := .int q) rfl h k w
 | bool=>exact oL.val (τ := .bool) rfl h k w
 | str=>exact oL.val (τ := .str) rfl h k w
 | _=>cases eN
theorem Bu.inj{τ:Ty}(eN:τ.HI=true){x:τ.den}{v u:Value}(h:Bu τ x v)(k:Bu τ x u)(w:World):v=u:=by
 cases τ with
 | st s =>
  obtain⟨a,b,h1,rfl,_⟩:=h;obtain⟨a',b',k1,rfl,_⟩:=k;rw[h1] at k1;simp only[b5J,TV.mk.injEq,heq_eq_eq,b6t,b5W] at k1;obtain⟨rfl,rfl⟩:=k1;rfl
 | int q=>exact oL.inj (τ := .int q) rfl h k w
 | bool=>exact oL.inj (τ := .bool) rfl h k w
 | str=>exact oL.inj (τ := .str) rfl h k w
 | _=>cases eN
structure JC(P:Program)(kT:TypeId)(κ:Ty):Prop where
 keyed:Go.Maps.Keyed P kT
 of:∀ (x:κ.den) (v:Value),Bu κ x v->∃ l,keyOf P kT v=some l
theorem JC.str{P:Program}{k:TypeId}(hk:P.underlying k=some .string)(w:World):JC P k .str:=⟨Go.Maps.string_keyed hk,λ x v h=>by
 obtain⟨s,h1,h2,h4⟩:=h w (λ _=>False);simp only[b5J,b5W] at h1;subst h1;exact⟨_,Go.WideMaps.keyOf_string_mk hk (by simp only[maxLen];omega)⟩⟩
structure xM(m:MV)(es:Array MapEntry):Prop where
 sk:m.κ.HI=true
 se:m.ε.key=true
 len:es.size=m.n
 small:m.n<=1000000000
 nd:es.toList.Pairwise λ x y=>x.key≠y.key
 ent:∀ e∈es.toList,∃ k v,Bu m.κ k e.key/\oL m.ε v e.val/\m.f k=some v
 all:∀ k v,m.f k=some v->∃ e∈es.toList,Bu m.κ k e.key
theorem xM.empty{κ ε:Ty}(h1:κ.HI=true)(h2:ε.key=true):xM ⟨κ,ε,jm κ.den ε.den,0⟩ #[] where
 sk:=h1
 se:=h2
 len:=rfl
 small:=b6L _
 nd:=by simp
 ent e he:=by simp at he
 all k v h:=by simp[jm] at h
section
variable {P:Program} {w:World} {m:MV} {es:Array MapEntry} {clock b:Nat} {T kT eT:TypeId}
theorem xM.found(h:xM m es)(K:JC P kT m.κ){k:m.κ.den}{v:Value}(hv:Bu m.κ k v)(w:World) :
  ((Instr.findKey kT v es.toList).run P w = .ok none w/\(∀ e∈es.toList,e.key≠v)/\m.f k=none) \/
  ∃ j e x,(Instr.findKey kT v es.toList).run P w = .ok (some (j,e.val)) w/\es.toList[j]?=some e/\e.key=v/\m.f k=some x/\oL m.ε x e.val:=by
 have hk:∀ e∈es.toList,∃ l,keyOf P kT e.key=some l:=λ e he=>by
  obtain⟨k',v',h1,_⟩:=h.ent e he;exact K.of k' _ h1
 obtain⟨lx,SY⟩:=K.of k v hv;rcases K.keyed.find w SY es.toList hk with ⟨h1,h2⟩|⟨j,e,h1,h2,h3⟩
 .refine .inl ⟨h1,h2,?_⟩;cases hf:m.f k with
  | none=>rfl
  | some x =>
   obtain⟨e,he,hke⟩:=h.all k x hf;exact absurd (hke.inj h.sk hv w) (h2 e he)
 .obtain⟨k',x,k1,k2,k3⟩:=h.ent e (b6N h2);have:k'=k:=k1.val h.sk (h3 ▸ hv) w;subst this;exact .inr ⟨j,e,x,h1,h2,h3,k3,k2⟩
theorem xM.ai(h:xM m es)(hT:P.underlying T=some (.map kT eT))(K:JC P kT m.κ)(hb:w.heap[b]?=some (.map es clock)){z:Value}(hz:(zeroValue eT).run P w = .ok z w)(hzr:oL m.ε m.ε.zero z)
  {k:m.κ.den} {v:Value} (hv:Bu m.κ k v) (c:Bool):∃ u,oL m.ε ((m.f k).getD m.ε.zero) u/\(Instr.lookup T (.map (some b)) v c).run P w = .ok (if c then .tuple #[u, .bool (m.f k).isSome] else u) w:=by
 obtain⟨lx,SY⟩:=K.of k v hv;rcases h.found K hv w with ⟨h1,h2,h3⟩|⟨j,e,x,h1,h2,h3,h4,h5⟩
 .refine⟨z,by rw[h3];exact hzr,?_⟩;rw[h3];simp[Instr.lookup,b6F hT,b8r hb,K.keyed.check w _ SY,h1,hz,Result.andThen]
 .refine⟨e.val,by rw[h4];exact h5,?_⟩;rw[h4];simp[Instr.lookup,b6F hT,b8r hb,K.keyed.check w _ SY,h1,Result.andThen]
theorem qN{α β:Type}(f:α->Option β)(k:α)(v:β):fj f k v k=some v:=by simp[fj]
theorem jA{α β:Type}(f:α->Option β)(k:α)(v:β){x:α}(h:x≠k):fj f k v x=f x:=by simp[fj,h]
theorem HU{α:Type}{R:α->α->Prop}{a b:α}:∀ {l:List α} {j:Nat},l.Pairwise R->l[j]?=some a->(∀ x,R a x->R b x)->(∀ x,R x a->R x b)->(l.set j b).Pairwise R
 | [],j,h,hj,h1,h2=>by simp at hj
 | y::ys,0,h,hj,h1,h2=>by
  simp only[b8L,b5E] at hj;subst hj;obtain⟨k1,k2⟩:=b7u.1 h;exact b7u.2 ⟨λ x hx=>h1 x (k1 x hx),k2⟩
 | y::ys,j+1,h,hj,h1,h2=>by
  obtain⟨k1,k2⟩:=b7u.1 h;simp only[List.getElem?_cons_succ] at hj;refine b7u.2 ⟨λ x hx=>?_,HU k2 hj h1 h2⟩;rcases List.mem_or_eq_of_mem_set hx with hx|rfl
  .exact k1 x hx
  .exact h2 y (k1 a (b6N hj))
theorem xM.store(h:xM m es)(hT:P.underlying T=some (.map kT eT))(K:JC P kT m.κ)(hb:w.heap[b]?=some (.map es clock))
  {k:m.κ.den} {v:Value} (hv:Bu m.κ k v) {x:m.ε.den} {u:Value} (hu:oL m.ε x u) (hn:m.n<1000000000) :
  ∃ Xq Ps,(Instr.mapUpdate T (.map (some b)) v u).run P w = .ok () { w with heap:=w.heap.setIfInBounds b (.map Xq Ps) }/\xM ⟨m.κ,m.ε,fj m.f k x,gH (m.f k) m.n⟩ Xq:=by
 obtain⟨lx,SY⟩:=K.of k v hv;rcases h.found K hv w with ⟨h1,h2,h3⟩|⟨j,e,y,h1,h2,h3,h4,h5⟩
 .refine⟨es.push ⟨v,u,clock⟩,clock+1,?_,?_⟩
  .simp[Instr.mapUpdate,b6F hT,b8r hb,K.keyed.check w _ SY,h1,run_setObj_map _ hb,Result.andThen]
  .refine⟨h.sk,h.se,?_,by simp[gH,h3];omega,?_,?_,?_⟩
   .simp[gH,h3,h.len]
   .simp only[b9h];refine b8U.2 ⟨h.nd,by simp,λ a ha b' cw=>?_⟩;simp only[b5Z] at cw;subst cw;exact h2 a ha
   .intro e he;simp only[b9h,b5F,b5Z] at he;rcases he with he|rfl
    .obtain⟨k',v',k1,k2,k3⟩:=h.ent e he;refine⟨k',v',k1,k2,?_⟩;show fj m.f k x k'=some v';rw[jA _ _ _ (λ e1=>h2 e he ((e1 ▸ k1).inj h.sk hv w))];exact k3
    .exact⟨k,x,hv,hu,qN _ _ _⟩
   .intro k' v' hf;by_cases hkk:k'=k
    .exact⟨⟨v,u,clock⟩,by simp,by rw[hkk];exact hv⟩
    .have hf':m.f k'=some v':=by rw[<-jA m.f k x hkk];exact hf
     obtain⟨e,he,hke⟩:=h.all k' v' hf';exact⟨e,by simp only[b9h,b5F];exact .inl he,hke⟩
 .have hj:es[j]?=some e:=by simpa using h2
  have VU:(es.modify j (λ e'=>{ e' with key:=v,val:=u })).toList=es.toList.set j { e with key:=v,val:=u }:=by
   rw[Array.toList_modify];apply b9i;intro i;simp only[List.getElem?_modify,List.getElem?_set];by_cases tM:j=i
   .subst tM;have hl:=(b6o.1 h2).1;simp only[b5Q,b5Q hl];rw[h2];rfl
   .simp[tM]
  refine⟨es.modify j (λ e'=>{ e' with key:=v,val:=u }),clock,?_,?_⟩
  .simp[Instr.mapUpdate,b6F hT,b8r hb,K.keyed.check w _ SY,h1,hj,h3,K.keyed.stays w SY,run_setObj_map _ hb,Result.andThen]
  .have oth:∀ x'∈es.toList.set j { e with key:=v,val:=u },x'={ e with key:=v,val:=u }\/(x'∈es.toList/\x'.key≠v):=by
    intro x' hx;obtain⟨i,hi,ex⟩:=b8k hx;rw[b9t] at ex;split at ex
    .exact .inl ex.symm
    .rename_i eu;have kg:i<es.toList.length:=by simpa using hi
     refine .inr ⟨ex ▸ b7a kg,λ V1=>?_⟩;have hjl:j<es.toList.length:=(b6o.1 h2).1;have hje:es.toList[j]=e:=(b6o.1 h2).2;have hpw:=List.pairwise_iff_getElem.1 h.nd;rcases Nat.lt_or_gt_of_ne eu with hl|hl
     .exact hpw j i hjl kg hl (by rw[hje,ex,h3,V1])
     .exact hpw i j kg hjl hl (by rw[hje,ex,h3,V1])
   refine⟨h.sk,h.se,?_,by simp[gH,h4];omega,?_,?_,?_⟩
   .simp[gH,h4,h.len]
   .rw[VU];exact HU h.nd h2 (λ x' hx=>by rw[<-h3];exact hx) (λ x' hx=>by rw[<-h3];exact hx)
   .intro e' AG;rw[VU] at AG;rcases oth e' AG with rfl|⟨he,eu⟩
    .exact⟨k,x,hv,hu,qN _ _ _⟩
    .obtain⟨k',v',k1,k2,k3⟩:=h.ent e' he;refine⟨k',v',k1,k2,?_⟩;show fj m.f k x k'=some v';rw[jA _ _ _ (λ e1=>eu ((e1 ▸ k1).inj h.sk hv w))];exact k3
   .intro k' v' hf;by_cases hkk:k'=k
    .refine⟨{ e with key:=v,val:=u },?_,(show k'=k from hkk).symm ▸ hv⟩;rw[VU];exact List.mem_iff_getElem.2 ⟨j,by simpa using (List.getElem?_eq_some_iff.1 h2).1,by simp⟩
    .have hf':m.f k'=some v':=by rw[<-jA m.f k x hkk];exact hf
     obtain⟨e',AG,hke⟩:=h.all k' v' hf';refine⟨e',?_,hke⟩;rw[VU];obtain⟨i,hi,ex⟩:=b8k AG;have tM:j≠i:=by
      intro e1;subst e1;have hje:es.toList[j]=e:=(b6o.1 h2).2;have:e'=e:=ex ▸ hje;subst this;exact hkk ((h3 ▸ hke).val h.sk hv w)
     exact List.mem_iff_getElem.2 ⟨i,by simpa using hi,by rw[List.getElem_set_ne tM];exact ex⟩
end
end Go.Proofs.YtlpndogmpcolnaaGreatDoor

namespace Go.Proofs.YtlpndogmpcolnaaGreatDoor
def aM{α β:Type}(R:α->β->Prop):List α->List β->Prop
 | [],[]=>True
 | a::Z9,b::bs=>R a b/\aM R Z9 bs
 | _,_=>False
theorem aM.length{α β:Type}{R:α->β->Prop}:∀ {Z9:List α} {bs:List β},aM R Z9 bs->Z9.length=bs.length
 | [],[],_=>rfl
 | _::_,_::_,h=>by simp[aM.length h.2]
 | [],_::_,h=>h.elim
 | _::_,[],h=>h.elim
theorem aM.imp{α β:Type}{R R':α->β->Prop}:∀ {Z9:List α} {bs:List β},aM R Z9 bs->(∀ a b,a∈Z9->R a b->R' a b)->aM R' Z9 bs
 | [],[],_,_=>trivial
 | _::_,_::_,h,k=>⟨k _ _ (by simp) h.1,aM.imp h.2 λ a b ha=>k a b (by simp[ha])⟩
 | [],_::_,h,_=>h.elim
 | _::_,[],h,_=>h.elim
theorem aM.at_{α β:Type}{R:α->β->Prop}:∀ {Z9:List α} {bs:List β},aM R Z9 bs->∀ (i:Nat) a,Z9[i]?=some a->∃ b,bs[i]?=some b/\R a b
 | [],[],_,i,a,h=>by simp at h
 | _::_,b::_,h,0,a,hi=>by simp at hi;subst hi;exact⟨b,rfl,h.1⟩
 | _::_,_::_,h,i+1,a,hi=>by simpa using aM.at_ h.2 i a (by simpa using hi)
 | [],_::_,h,_,_,_=>h.elim
 | _::_,[],h,_,_,_=>h.elim
theorem aM.append{α β:Type}{R:α->β->Prop}:∀ {Z9:List α} {bs:List β} {as' bs'},aM R Z9 bs->aM R as' bs'->aM R (Z9++as') (bs++bs')
 | [],[],_,_,_,k=>k
 | _::_,_::_,_,_,h,k=>⟨h.1,aM.append h.2 k⟩
 | [],_::_,_,_,h,_=>h.elim
 | _::_,[],_,_,h,_=>h.elim
theorem aM.take{α β:Type}{R:α->β->Prop}(n:Nat):∀ {Z9:List α} {bs:List β},aM R Z9 bs->aM R (Z9.take n) (bs.take n):=by
 induction n with
 | zero=>intro Z9 bs _;simp[aM]
 | succ n ih =>
  intro Z9 bs h;match Z9,bs,h with
  | [],[],_=>simp[aM]
  | _::_,_::_,h=>exact⟨h.1,ih h.2⟩
theorem aM.drop{α β:Type}{R:α->β->Prop}(n:Nat):∀ {Z9:List α} {bs:List β},aM R Z9 bs->aM R (Z9.drop n) (bs.drop n):=by
 induction n with
 | zero=>intro Z9 bs h;simpa using h
 | succ n ih =>
  intro Z9 bs h;match Z9,bs,h with
  | [],[],_=>simp[aM]
  | _::_,_::_,h=>exact ih h.2
theorem aM.dA{α β γ:Type}{R:γ->β->Prop}(f:α->γ):∀ {Z9:List α} {bs:List β},aM (λ a b=>R (f a) b) Z9 bs->aM R (Z9.map f) bs
 | [],[],_=>trivial
 | _::_,_::_,h=>⟨h.1,aM.dA f h.2⟩
 | [],_::_,h=>h.elim
 | _::_,[],h=>h.elim
theorem aM.of_map{α β γ:Type}{R:γ->β->Prop}(f:α->γ):∀ {Z9:List α} {bs:List β},aM R (Z9.map f) bs->aM (λ a b=>R (f a) b) Z9 bs
 | [],[],_=>trivial
 | _::_,_::_,h=>⟨h.1,aM.of_map f h.2⟩
 | [],_::_,h=>h.elim
 | _::_,[],h=>h.elim
theorem cP.vI{w:World}{S:Nat->Prop}:∀ {vs:List TV} {cs:List Value},cP w S (vs.map TV.aL) cs↔aM (λ v x=>Rd w S v.aL [x]) vs cs
 | [],[]=>by simp[cP,aM]
 | [],_::_=>by simp[cP,aM]
 | v::vs,[]=>by simp[cP,aM]
 | v::vs,x::cs=>by
  simp only[b6w,cP,aM];constructor
  .rintro⟨y,r,h1,h2,h3⟩;simp only[b5J] at h1;obtain⟨rfl,rfl⟩:=h1;exact⟨h2,cP.vI.1 h3⟩
  .rintro⟨h1,h2⟩;exact⟨x,cs,rfl,h1,cP.vI.2 h2⟩
structure bX(X:Nat->Prop)(w w':World):Prop where
 os:w'.os=w.os
 tape:w'.tape=w.tape
 output:w'.output=w.output
 size:w.heap.size<=w'.heap.size
 block:∀ b,b<w.heap.size->¬ X b->w'.heap[b]?=w.heap[b]?
theorem bX.refl(X:Nat->Prop)(w:World):bX X w w:=⟨rfl,rfl,rfl,b6k _,λ _ _ _=>rfl⟩
theorem bX.trans{X Y:Nat->Prop}{a b c:World}(h:bX X a b)(k:bX Y b c)(hXY:∀ i,i<a.heap.size->Y i->X i):bX X a c :=
 ⟨k.os.trans h.os,k.tape.trans h.tape,k.output.trans h.output,b7g h.size k.size,
  λ i hi hx=>(k.block i (b6a hi h.size) (λ hy=>hx (hXY i hi hy))).trans (h.block i hi hx)⟩
structure Ctx where
 P:Program
 E:Env
 w0:World
 X:Nat->Prop
 S0:Nat->Prop
 R:Nat->Option Value
 Z:Nat->Prop
 RB:Nat->Option Nat
structure Gh where
 S:Nat->Prop
 η:Nat->Value
 φ:Nat->List Nat
def St(c:Ctx)(S:Nat->Prop)(b:Nat):Prop:=S b\/(b<c.w0.heap.size/\¬ c.X b/\¬ c.Z b)
def dD:Value->Option Nat
 | .pointer (some a)=>some a.block
 | .slice (some a) _ _=>some a.block
 | .map (some b)=>some b
 | _=>none
def dE(w:World)(S:Nat->Prop)(v:TV)(x:Value):Prop :=
 match v with
 | ⟨.st s,y⟩=>∃ cs,x = .agg cs.toArray/\Rd w S (s.aL y) cs
 | v=>Rd w S v.aL [x]
def H2(w:World)(S:Nat->Prop):Arg->Value->Prop
 | .val v,x=>dE w S v x
 | .ref v,x=>∃ b o cs,x = .pointer (some ⟨b,o,none⟩)/\b<w.heap.size/\bP w b o cs/\Rd w S v.aL cs
 | .fn f,x=>x = .func (.func f) #[] #[]
 | .cO _,_=>False
 | .own _,_=>False
 | .box _,_=>False
def Hk(w:World)(S:Nat->Prop):List TV->Value->Prop
 | [v],x=>dE w S v x
 | vs,x=>∃ l,x = .tuple l.toArray/\aM (dE w S) vs l
def Gok(w:World)(S:Nat->Prop):Prop:=∀ g∈ZV,S g/\∃ m,w.cell? ⟨g,0,none⟩=some (.int .i64 m)
def pO(w:World)(S:Nat->Prop):Prop:=(∀ b,S b->b<w.heap.size)/\Gok w S
theorem Gok.mono{w w':World}{S S':Nat->Prop}(h:Gok w S)(hS:∀ b,S b->S' b)(hw:∀ b,S b->w'.heap[b]?=w.heap[b]?):Gok w' S':=λ g hg=>by
 obtain⟨h1,m,h2⟩:=h g hg;exact⟨hS g h1,m,(b8z (a:=⟨g,0,none⟩) (hw g h1)).trans h2⟩
def JE(P:Program)(f:FuncId)(args:List Arg)(post:List TV->Prop):Prop :=
 ∀ (w:World) (S:Nat->Prop) (bK:List Value),pO w S->aM (H2 w S) args bK ->
  Calls P f bK.toArray w λ e w'=>∃ x S' res,e = .returned x/\post res/\bX (λ _=>False) w w'/\(∀ b,b<w.heap.size->(S' b↔S b))/\(∀ b,S' b->b<w'.heap.size)/\Hk w' S' res x
def j9 (P:Program) (f:FuncId):Prop:=∃ fn,P.funcs[f]?=some fn/\fn.body.isNone=false/\(fn.name == "runtime.NumGoroutine")=false
def Bt(P:Program)(f:FuncId)(ew:List Arg):(ps:List Ty)->(r:Ty)->FN ps r->List Arg->Prop
 | [],r,F,acc=>F.1->j9 P f/\JE P f (acc++ew) (·=[⟨r,F.2⟩])
 | t::ts,r,F,acc=>∀ x,Bt P f ew ts r (F x) (acc++[.val ⟨t,x⟩])
def PT(c:Ctx)(S:Nat->Prop)(w:World):Arg->Value->Prop
 | .val v,x=>dE w S v x
 | .ref v,x=>∃ b o cs,x = .pointer (some ⟨b,o,none⟩)/\St c S b/\bP w b o cs/\Rd w S v.aL cs
 | .fn f,x=>x = .func (.func f) #[] #[]
 | .cO _,_=>False
 | .own _,_=>False
 | .box _,_=>False
def C1(c:Ctx)(G:Gh)(lk:Nat->Option av)(w:World):AV->Value->Prop
 | .any,_=>True
 | .dY,x=>x=undef
 | .aO v,x=>v.τ.agg=false/\Rd w G.S v.aL [x]
 | .nil,x=>x = .slice none 0 0
 | .cT v,x=>∃ b o cs,x = .pointer (some ⟨b,o,none⟩)/\St c G.S b/\bP w b o cs/\Rd w G.S v.aL cs
 | .ptr id off,x=>∃ b,G.η id = .pointer (some ⟨b,0,none⟩)/\x = .pointer (some ⟨b,off,none⟩)/\fR (lk id)=true
 | .row id,x=>x=G.η id/\isRow (lk id)=true/\∃ a n m,x = .slice a n m
 | .eA id i off,x=>∃ b n cap e τ xs,G.η id = .slice (some ⟨b,0,none⟩) n cap/\lk id=some (.row e τ xs)/\i<xs.length/\x = .pointer (some ⟨b,i * τ.size+off,none⟩)
 | .fn f,x=>x = .func (.func f) #[] #[]
 | .aC id,x=>cR (lk id)=true/\∃ l,G.η id = .tuple (x::l).toArray/\∃ a n m,x = .slice a n m
 | .sub id i off sz,x=>cR (lk id)=true/\∃ a n cap l,G.η id = .tuple (.slice a n cap::l).toArray/\i<n/\l[i * sz+off]?=some x/\∃ a n m,x = .slice a n m
 | .eJ id i off sz,x=>cR (lk id)=true/\∃ b n cap l,G.η id = .tuple (.slice (some ⟨b,0,none⟩) n cap::l).toArray/\i<n/\x = .pointer (some ⟨b,i * sz+off,none⟩)
 | .il v,x=>∃ f ew l,x = .func (.func f) #[] l.toArray/\Bt c.P f ew v.ps v.r v.F []/\aM (PT c G.S w) ew l
 | .mp id,x=>x=G.η id/\I3 (lk id)=true/\∃ b,x = .map (some b)
 | .agg _,_=>False
 | .hY _,_=>False
 | .cO ..,_=>False
def TR(c:Ctx)(G:Gh)(lk:Nat->Option av)(w:World):AV->Value->Prop
 | .any,_=>True
 | .aO v,x=>dE w G.S v x
 | .aC id,x=>C1 c G lk w (.aC id) x
 | .cT v,x=>C1 c G lk w (.cT v) x
 | .agg cs,x=>∃ l,x = .agg l.toArray/\aM (C1 c G lk w) cs l
 | _,_=>False
def CR(c:Ctx)(G:Gh)(lk:Nat->Option av)(w:World):AV->Value->Prop
 | .aO v,x=>dE w G.S v x
 | .agg cs,x=>∃ l,x = .agg l.toArray/\aM (C1 c G lk w) cs l
 | v,x=>C1 c G lk w v x
def VR(c:Ctx)(G:Gh)(lk:Nat->Option av)(w:World):AV->Value->Prop
 | .aO v,x=>dE w G.S v x
 | .agg cs,x=>∃ l,x = .agg l.toArray/\aM (C1 c G lk w) cs l
 | .hY vs,x=>∃ l,x = .tuple l.toArray/\aM (TR c G lk w) vs l
 | .cO f cs,x=>∃ l,x = .func (.func f) #[] l.toArray/\aM (CR c G lk w) cs l
 | v,x=>C1 c G lk w v x
def OR(c:Ctx)(G:Gh)(lk:Nat->Option av)(w:World)(id:Nat):av->Prop
 | .box cs=>∃ b l t,G.η id = .pointer (some ⟨b,0,none⟩)/\w.heap[b]?=some (.cells l.toArray t (0,0))/\aM (C1 c G lk w) cs l
 | .row e τ xs=>∃ l,w.ownsRow 0 e τ.size (G.η id) xs.length l/\dP w G.S (xs.map τ.aL) l/\xs.length<=140737488355328
 | .aC τ xs=>True
 | .map m=>∃ b es clock,G.η id = .map (some b)/\w.heap[b]?=some (.map es clock)/\xM m es
def iK(w:World)(η:Value)(τ:Ty)(xs:List τ.den)(fp:List Nat):Prop :=
 ∃ v l a cap,η = .tuple (v::l).toArray/\v = .slice a xs.length cap/\xs.length<=cap/\cap<=maxLen/\xs.length<=140737488355328 /\
  ((xs=[]/\(a=none/\cap=0)/\fp=[])\/∃ b f t,a=some ⟨b,0,none⟩/\fp=b::f/\w.heap[b]?=some (.cells l.toArray t (0,0))/\l.length=cap * τ.size/\bI w (xs.map τ.aL) l f)
structure H5(c:Ctx)(G:Gh)(lk:Nat->Option av)(w:World):Prop where
 tr:∀ id τ xs,lk id=some (.aC τ xs)->iK w (G.η id) τ xs (G.φ id)
 nd:∀ id τ xs,lk id=some (.aC τ xs)->(G.φ id).Nodup
 pl:∀ id τ xs b,lk id=some (.aC τ xs)->b∈G.φ id->(c.w0.heap.size<=b\/c.X b)/\¬ G.S b/\b<w.heap.size/\∀ i o,lk i=some o->dD (G.η i)≠some b
 ap:∀ id dk τ aU xs cK b,lk id=some (.aC τ xs)->lk dk=some (.aC aU cK)->b∈G.φ id->b∈G.φ dk->id=dk
def XGk(c:Ctx):Prop:=(∀ b,c.X b->b<c.w0.heap.size)/\∀ g∈ZV,c.S0 g/\¬ c.X g/\g<c.w0.heap.size/\∃ m,c.w0.cell? ⟨g,0,none⟩=some (.int .i64 m)
structure bf(c:Ctx)(G:Gh)(sl:Nat->AV)(n:Nat)(lk:Nat->Option av)(a:Act)(w:World):Prop where
 defers:a.defers=[]
 size:a.tmps.size=n
 keep:bX c.X c.w0 w
 ju:XGk c
 eo:∀ b,b<c.w0.heap.size->¬ c.X b->(G.S b↔c.S0 b)
 sX:∀ b,c.S0 b->G.S b
 dx:∀ b,G.S b->b<w.heap.size
 aA:∀ i,VR c G lk w (sl i) (a.tmps.getD i undef)
 aK:∀ id o,lk id=some o->OR c G lk w id o
 place:∀ id o b,lk id=some o->dD (G.η id)=some b->(c.w0.heap.size<=b\/c.X b)/\¬ G.S b/\b<w.heap.size
 apart:∀ id dk o o' b,lk id=some o->lk dk=some o'->dD (G.η id)=some b->dD (G.η dk)=some b->id=dk
 aP:H5 c G lk w
 root:∀ id v,c.R id=some v->cR (lk id)=true->∃ l,G.η id = .tuple (v::l).toArray
 fZ:∀ id v,c.R id=some v->50<=id/\id<100
 dj:∀ id b,c.RB id=some b->fR (lk id)=true->G.η id = .pointer (some ⟨b,0,none⟩)
 eQ:∀ id b,c.RB id=some b->400000<=id
theorem bf.sOk{c:Ctx}{G:Gh}{sl:Nat->AV}{n:Nat}{lk:Nat->Option av}{a:Act}{w:World}(h:bf c G sl n lk a w):pO w G.S:=⟨h.dx,λ g hg=>by
 obtain⟨h1,h2,h3,m,h4⟩:=h.ju.2 g hg;exact⟨h.sX g h1,m,(b8z (a:=⟨g,0,none⟩) (h.keep.block g h3 h2)).trans h4⟩⟩
def aq.sl(s:aq)(i:Nat):AV:=s.aA.getD i .any
def Inv(c:Ctx)(G:Gh)(s:aq)(a:Act)(w:World):Prop:=bf c G s.sl s.aA.length s.ai a w
theorem rH{o:Option av}(h:isRow o=true):cR o=false:=by
 match o,h with
 | some (.row ..),_=>rfl
theorem HM{o:Option av}(h:I3 o=true):cR o=false:=by
 match o,h with
 | some (.map _),_=>rfl
def eC(o o':Option av):Prop :=
 (fR o=true->fR o'=true)/\(∀ e τ xs,o=some (.row e τ xs)->∃ e' cK,o'=some (.row e' τ cK)/\xs.length<=cK.length)/\(cR o=true->cR o'=true)/\(I3 o=true->I3 o'=true)
theorem eC.refl(o:Option av):eC o o:=⟨id,λ e τ xs h=>⟨e,xs,h,b6k _⟩,id,id⟩
theorem eC.isRow{o o':Option av}(h:eC o o')(hr:isRow o=true):YtlpndogmpcolnaaGreatDoor.isRow o'=true:=by
 match o,hr with
 | some (.row e τ xs),_ =>
  obtain⟨e',cK,h1,_⟩:=h.2.1 e τ xs rfl;rw[h1];rfl
section
variable {c:Ctx} {G G':Gh} {lk lk':Nat->Option av} {w w':World}
theorem dE.mono{v:TV}{x:Value}(h:dE w G.S v x)(hS:∀ b,G.S b->G'.S b)(hw:∀ b,G.S b->w'.heap[b]?=w.heap[b]?):dE w' G'.S v x:=by
 obtain⟨τ,y⟩:=v;cases τ with
 | st s =>
  obtain⟨cs,h1,h2⟩:=h;exact⟨cs,h1,Rd.keep hS hw _ h2⟩
 | _=>exact Rd.keep hS hw _ h
theorem PT.mono{S S':Nat->Prop}{v:Arg}{x:Value}(h:PT c S w v x)(hS:∀ b,S b->S' b)(hw:∀ b,St c S b->w'.heap[b]?=w.heap[b]?):PT c S' w' v x:=by
 cases v with
 | val v=>exact dE.mono (G:=⟨S,λ _=>undef,λ _=>[]⟩) (G':=⟨S',λ _=>undef,λ _=>[]⟩) h hS (λ b hb=>hw b (.inl hb))
 | ref v =>
  obtain⟨b,o,cs,h1,h2,h3,h4⟩:=h;exact⟨b,o,cs,h1,h2.imp (hS b) id,h3.keep (hw b h2),Rd.keep hS (λ b hb=>hw b (.inl hb)) _ h4⟩
 | fn f=>exact h
 | cO v=>exact h
 | own v=>exact h
 | box k=>exact h
theorem C1.mono{v:AV}{x:Value}(h:C1 c G lk w v x)(hk:∀ id,v.refs id=true->eC (lk id) (lk' id)/\G'.η id=G.η id)
  (hS:∀ b,G.S b->G'.S b) (hw:∀ b,St c G.S b->w'.heap[b]?=w.heap[b]?):C1 c G' lk' w' v x:=by
 have D1:∀ b,G.S b->w'.heap[b]?=w.heap[b]?:=λ b hb=>hw b (.inl hb);cases v with
 | any=>trivial
 | dY=>exact h
 | aO v=>exact⟨h.1,Rd.keep hS D1 _ h.2⟩
 | nil=>exact h
 | cT v =>
  obtain⟨b,o,cs,h1,h2,h3,h4⟩:=h;exact⟨b,o,cs,h1,h2.imp (hS b) id,h3.keep (hw b h2),Rd.keep hS D1 _ h4⟩
 | ptr id off =>
  obtain⟨b,h1,h2,h3⟩:=h;obtain⟨k1,k2⟩:=hk id (by simp[AV.refs]);exact⟨b,k2.trans h1,h2,k1.1 h3⟩
 | row id =>
  obtain⟨h1,h2,h3⟩:=h;obtain⟨k1,k2⟩:=hk id (by simp[AV.refs]);exact⟨h1.trans k2.symm,k1.isRow h2,h3⟩
 | eA id i off =>
  obtain⟨b,n,cap,e,τ,xs,h1,h2,h3,h4⟩:=h;obtain⟨k1,k2⟩:=hk id (by simp[AV.refs]);obtain⟨e',cK,k3,k4⟩:=k1.2.1 e τ xs h2;exact⟨b,n,cap,e',τ,cK,k2.trans h1,k3,by omega,h4⟩
 | fn f=>exact h
 | aC id =>
  obtain⟨h1,l,h2,h3⟩:=h;obtain⟨k1,k2⟩:=hk id (by simp[AV.refs]);exact⟨k1.2.2.1 h1,l,k2.trans h2,h3⟩
 | sub id i off sz =>
  obtain⟨h1,a,n,cap,l,h2,h3⟩:=h;obtain⟨k1,k2⟩:=hk id (by simp[AV.refs]);exact⟨k1.2.2.1 h1,a,n,cap,l,k2.trans h2,h3⟩
 | eJ id i off sz =>
  obtain⟨h1,b,n,cap,l,h2,h3⟩:=h;obtain⟨k1,k2⟩:=hk id (by simp[AV.refs]);exact⟨k1.2.2.1 h1,b,n,cap,l,k2.trans h2,h3⟩
 | il v =>
  obtain⟨f,ew,l,h1,h2,h3⟩:=h;exact⟨f,ew,l,h1,h2,h3.imp λ u y _ hy=>hy.mono hS hw⟩
 | mp id =>
  obtain⟨h1,h2,h3⟩:=h;obtain⟨k1,k2⟩:=hk id (by simp[AV.refs]);exact⟨h1.trans k2.symm,k1.2.2.2 h2,h3⟩
 | agg cs=>exact h
 | hY vs=>exact h
 | cO f cs=>exact h
theorem lQ{id:Nat}:∀ {cs:List AV} {v:AV},v∈cs->v.refs id=true->AV.fT id cs=true
 | u::r,v,hm,hv=>by
  simp only[AV.fT];rcases b5X.1 hm with rfl|h
  .rw[hv]
  .split
   .rfl
   .exact lQ h hv
theorem CR.mono{v:AV}{x:Value}(h:CR c G lk w v x)(hk:∀ id,v.refs id=true->eC (lk id) (lk' id)/\G'.η id=G.η id)
  (hS:∀ b,G.S b->G'.S b) (hw:∀ b,St c G.S b->w'.heap[b]?=w.heap[b]?):CR c G' lk' w' v x:=by
 cases v with
 | aO v=>exact dE.mono h hS (λ b hb=>hw b (.inl hb))
 | agg cs =>
  obtain⟨l,h1,h2⟩:=h;exact⟨l,h1,h2.imp λ u y hu hy=>hy.mono (λ id aS=>hk id (by simp only[AV.refs];exact lQ hu aS)) hS hw⟩
 | any=>trivial
 | dY=>exact h
 | nil=>exact C1.mono (v := .nil) h hk hS hw
 | cT v=>exact C1.mono (v := .cT v) h hk hS hw
 | ptr i o=>exact C1.mono (v := .ptr i o) h hk hS hw
 | row i=>exact C1.mono (v := .row i) h hk hS hw
 | eA i k o=>exact C1.mono (v := .eA i k o) h hk hS hw
 | fn f=>exact C1.mono (v := .fn f) h hk hS hw
 | aC i=>exact C1.mono (v := .aC i) h hk hS hw
 | sub i k o z=>exact C1.mono (v := .sub i k o z) h hk hS hw
 | eJ i k o z=>exact C1.mono (v := .eJ i k o z) h hk hS hw
 | il v=>exact C1.mono (v := .il v) h hk hS hw
 | mp i=>exact C1.mono (v := .mp i) h hk hS hw
 | hY _=>exact h
 | cO _ _=>exact h
theorem VR.mono{v:AV}{x:Value}(h:VR c G lk w v x)(hk:∀ id,v.refs id=true->eC (lk id) (lk' id)/\G'.η id=G.η id)
  (hS:∀ b,G.S b->G'.S b) (hw:∀ b,St c G.S b->w'.heap[b]?=w.heap[b]?):VR c G' lk' w' v x:=by
 have D1:∀ b,G.S b->w'.heap[b]?=w.heap[b]?:=λ b hb=>hw b (.inl hb);cases v with
 | aO v=>exact dE.mono h hS D1
 | agg cs =>
  obtain⟨l,h1,h2⟩:=h;exact⟨l,h1,h2.imp λ u y hu hy=>hy.mono (λ id aS=>hk id (by simp only[AV.refs];exact lQ hu aS)) hS hw⟩
 | hY vs =>
  obtain⟨l,h1,h2⟩:=h;refine⟨l,h1,h2.imp λ u y hu hy=>?_⟩;have iP:∀ id,u.refs id=true->eC (lk id) (lk' id)/\G'.η id=G.η id:=λ id aS=>hk id (by simp only[AV.refs];exact lQ hu aS);cases u with
  | any=>trivial
  | aO v=>exact dE.mono hy hS D1
  | aC i=>exact C1.mono (v := .aC i) hy iP hS hw
  | cT v=>exact C1.mono (v := .cT v) hy iP hS hw
  | agg cs =>
   obtain⟨l,h1,h2⟩:=hy;exact⟨l,h1,h2.imp λ u y hu hy=>hy.mono (λ id aS=>iP id (by simp only[AV.refs];exact lQ hu aS)) hS hw⟩
  | _=>exact hy.elim
 | dY=>trivial
 | any=>trivial
 | nil=>exact C1.mono (v := .nil) h hk hS hw
 | cT v=>exact C1.mono (v := .cT v) h hk hS hw
 | ptr i o=>exact C1.mono (v := .ptr i o) h hk hS hw
 | row i=>exact C1.mono (v := .row i) h hk hS hw
 | eA i k o=>exact C1.mono (v := .eA i k o) h hk hS hw
 | fn f=>exact C1.mono (v := .fn f) h hk hS hw
 | aC i=>exact C1.mono (v := .aC i) h hk hS hw
 | sub i k o z=>exact C1.mono (v := .sub i k o z) h hk hS hw
 | eJ i k o z=>exact C1.mono (v := .eJ i k o z) h hk hS hw
 | il v=>exact C1.mono (v := .il v) h hk hS hw
 | mp i=>exact C1.mono (v := .mp i) h hk hS hw
 | cO f cs =>
  obtain⟨l,h1,h2⟩:=h;exact⟨l,h1,h2.imp λ u y hu hy=>hy.mono (λ id aS=>hk id (by simp only[AV.refs];exact lQ hu aS)) hS hw⟩
def av.refs(id:Nat):av->Bool
 | .box cs=>AV.fT id cs
 | .row .. => false
 | .aC .. => false
 | .map .. => false
theorem qW{v:Value}{e:TypeId}{size n:Nat}{l:List Value}(h:w.ownsRow 0 e size v n l):v.ownBlock=dD v:=by
 rcases h.2 with ⟨rfl,_⟩|⟨g,cap,cur,rfl,_⟩<;>rfl
theorem HT{e:TypeId}{size n:Nat}{v:Value}{l:List Value}(h:w.ownsRow 0 e size v n l)(hb:∀ b,dD v=some b->w'.heap[b]?=w.heap[b]?):w'.ownsRow 0 e size v n l:=by
 refine⟨h.1,h.2.imp id ?_⟩;rintro⟨g,cap,cur,rfl,h1,h2,h3⟩;exact⟨g,cap,cur,rfl,h1,by rw[hb g rfl];exact h2,h3⟩
theorem OR.mono{id:Nat}{o:av}(h:OR c G lk w id o)(e9:G'.η id=G.η id)(hb:∀ b,dD (G.η id)=some b->w'.heap[b]?=w.heap[b]?)
  (hk:∀ j,o.refs j=true->eC (lk j) (lk' j)/\G'.η j=G.η j) (hS:∀ b,G.S b->G'.S b) (hw:∀ b,St c G.S b->w'.heap[b]?=w.heap[b]?):OR c G' lk' w' id o:=by
 cases o with
 | box cs =>
  obtain⟨b,l,t,h1,h2,h3⟩:=h;refine⟨b,l,t,e9.trans h1,?_,h3.imp λ u y hu hy=>hy.mono (λ j hj=>hk j (lQ hu hj)) hS hw⟩;rw[hb b (by rw[h1];rfl)];exact h2
 | row e τ xs =>
  obtain⟨l,h1,h2,h3⟩:=h;refine⟨l,?_,dP.keep hS (λ b hb=>hw b (.inl hb)) _ h2,h3⟩;rw[e9];exact HT h1 hb
 | aC τ xs=>trivial
 | map m =>
  obtain⟨b,es,clock,h1,h2,h3⟩:=h;exact⟨b,es,clock,e9.trans h1,by rw[hb b (by rw[h1];rfl)];exact h2,h3⟩
end
theorem iK.keep{w w':World}{η:Value}{τ:Ty}{xs:List τ.den}{fp:List Nat}(h:iK w η τ xs fp)(hw:∀ b∈fp,w'.heap[b]?=w.heap[b]?):iK w' η τ xs fp:=by
 obtain⟨v,l,a,cap,h1,h2,h3,h4,h5,h6⟩:=h;refine⟨v,l,a,cap,h1,h2,h3,h4,h5,h6.imp id ?_⟩;rintro⟨b,f,t,k1,rfl,k2,k0,k3⟩;exact⟨b,f,t,k1,rfl,by rw[hw b (by simp)];exact k2,k0,bI.keep _ k3 λ b hb=>hw b (by simp[hb])⟩
theorem bf.world{c:Ctx}{G:Gh}{sl:Nat->AV}{n:Nat}{lk:Nat->Option av}{a:Act}{w w':World}{S':Nat->Prop}(h:bf c G sl n lk a w)
  (iC:bX (λ b=>c.w0.heap.size<=b\/c.X b) w w') (hS:∀ b,G.S b->S' b) (a4B:∀ b,b<w.heap.size->(S' b↔G.S b)) (hX:∀ b,c.S0 b->S' b) (hLt:∀ b,S' b->b<w'.heap.size)
  (hw:∀ b,St c G.S b->w'.heap[b]?=w.heap[b]?) (kh:∀ id o b,lk id=some o->dD (G.η id)=some b->w'.heap[b]?=w.heap[b]?) (wC:∀ id τ xs b,lk id=some (.aC τ xs)->b∈G.φ id->w'.heap[b]?=w.heap[b]?) :
  bf c ⟨S',G.η,G.φ⟩ sl n lk a w' where
 defers:=h.defers
 size:=h.size
 keep:=h.keep.trans iC λ i hi hy=>hy.elim (λ h=>by omega) id
 ju:=h.ju
 eo b hb hx:=(a4B b (b6a hb h.keep.size)).trans (h.eo b hb hx)
 sX:=hX
 dx:=hLt
 aA i:=(h.aA i).mono (λ id _=>⟨eC.refl _,rfl⟩) hS hw
 aK id o ho:=(h.aK id o ho).mono rfl (λ b hb=>kh id o b ho hb) (λ j _=>⟨eC.refl _,rfl⟩) hS hw
 place id o b ho hb:=by
  obtain⟨h1,h2,h3⟩:=h.place id o b ho hb;exact⟨h1,λ hs=>h2 ((a4B b h3).1 hs),b6a h3 iC.size⟩
 apart:=h.apart
 aP:={
  tr:=λ id τ xs ht=>(h.aP.tr id τ xs ht).keep λ b hb=>wC id τ xs b ht hb
  nd:=h.aP.nd
  pl:=λ id τ xs b ht hb=>by
   obtain⟨h1,h2,h3,h4⟩:=h.aP.pl id τ xs b ht hb;exact⟨h1,λ hs=>h2 ((a4B b h3).1 hs),b6a h3 iC.size,h4⟩
  ap:=h.aP.ap }
 root:=h.root
 fZ:=h.fZ
 dj:=h.dj
 eQ:=h.eQ
theorem bf.drew{c:Ctx}{G:Gh}{sl:Nat->AV}{n:Nat}{lk:Nat->Option av}{a:Act}{w:World}(h:bf c G sl n lk a w):bf c G sl n lk a w.drew :=
 h.world (S':=G.S) ⟨rfl,rfl,rfl,b6k _,λ _ _ _=>rfl⟩ (λ _ h=>h) (λ _ _=>b7k) h.sX h.dx (λ _ _=>rfl) (λ _ _ _ _ _=>rfl) (λ _ _ _ _ _ _=>rfl)
def jD(n:Nat)(sl:Nat->AV)(d:Option Nat)(v:AV)(i:Nat):AV:=if d=some i/\i<n then v else sl i
theorem eh(a:Act)(d:Option Nat)(x:Value)(i:Nat):(a.put d x).tmps.getD i undef=if d=some i/\i<a.tmps.size then x else a.tmps.getD i undef:=by
 cases d with
 | none=>simp[Act.put]
 | some d =>
  simp only[Act.put,b5E];by_cases h:d=i
  .subst h;by_cases hl:d<a.tmps.size
   .simp[hl,b6D]
   .simp[hl,b6D,Array.setIfInBounds]
  .simp[h,b6D,b8Y]
theorem gw(a:Act)(d:Option Nat)(x:Value):(a.put d x).tmps.size=a.tmps.size:=by cases d<;>simp[Act.put]
theorem jw(a:Act)(d:Option Nat)(x:Value):(a.put d x).defers=a.defers:=by cases d<;>rfl
theorem bf.put{c:Ctx}{G:Gh}{sl:Nat->AV}{n:Nat}{lk:Nat->Option av}{a:Act}{w:World}(h:bf c G sl n lk a w){d:Option Nat}{v:AV}{x:Value}(hv:VR c G lk w v x) :
  bf c G (jD n sl d v) n lk (a.put d x) w where
 defers:=(jw _ _ _).trans h.defers
 size:=(gw _ _ _).trans h.size
 keep:=h.keep
 ju:=h.ju
 eo:=h.eo
 sX:=h.sX
 dx:=h.dx
 aA i:=by
  rw[eh,h.size,jD];split
  .exact hv
  .exact h.aA i
 aK:=h.aK
 place:=h.place
 apart:=h.apart
 aP:=h.aP
 root:=h.root
 fZ:=h.fZ
 dj:=h.dj
 eQ:=h.eQ
theorem bf.forget{c:Ctx}{G:Gh}{sl sl':Nat->AV}{n:Nat}{lk:Nat->Option av}{a:Act}{w:World}(h:bf c G sl n lk a w)(hs:∀ i,sl' i=sl i\/sl' i = .any):bf c G sl' n lk a w where
 defers:=h.defers
 size:=h.size
 keep:=h.keep
 ju:=h.ju
 eo:=h.eo
 sX:=h.sX
 dx:=h.dx
 aA i:=by
  rcases hs i with e|e
  .rw[e];exact h.aA i
  .rw[e];trivial
 aK:=h.aK
 place:=h.place
 apart:=h.apart
 aP:=h.aP
 root:=h.root
 fZ:=h.fZ
 dj:=h.dj
 eQ:=h.eQ
theorem X7(id:Nat)(v:AV):v.kill id=v\/v.kill id = .any:=by unfold AV.kill;split<;>simp
theorem Cr(id:Nat)(v:AV):(v.kill id).refs id=false:=by
 unfold AV.kill;split
 .rfl
 .assumption
theorem C1.kill{c:Ctx}{G:Gh}{lk:Nat->Option av}{w:World}{v:AV}{x:Value}(h:C1 c G lk w v x)(id:Nat):C1 c G lk w (v.kill id) x:=by
 rcases X7 id v with e|e
 .rw[e];exact h
 .rw[e];trivial
theorem FU(id:Nat):∀ cs:List AV,AV.fT id (cs.map (AV.kill id))=false
 | []=>rfl
 | v::r=>by simp only[b6w,AV.fT,Cr];exact FU id r
theorem OR.kill{c:Ctx}{G:Gh}{lk:Nat->Option av}{w:World}{i:Nat}{o:av}(h:OR c G lk w i o)(id:Nat):OR c G lk w i (o.kill id):=by
 cases o with
 | box cs =>
  obtain⟨b,l,t,h1,h2,h3⟩:=h;exact⟨b,l,t,h1,h2,aM.dA _ (h3.imp λ u y _ hy=>hy.kill id)⟩
 | row e τ xs=>exact h
 | aC τ xs=>exact h
 | map m=>exact h
theorem Jo(id:Nat)(o:Option av):eC o (o.map (av.kill id)):=by
 refine⟨λ h=>?_,λ e τ xs h=>⟨e,xs,by rw[h];rfl,b6k _⟩,λ h=>?_,λ h=>?_⟩
 .match o,h with
  | some (.box cs),_=>rfl
 .match o,h with
  | some (.aC τ xs),_=>rfl
 .match o,h with
  | some (.map m),_=>rfl
theorem jl{id:Nat}{o:Option av}{τ:Ty}{xs:List τ.den}(h:o.map (av.kill id)=some (.aC τ xs)):o=some (.aC τ xs):=by
 match o,h with
 | some (.aC aU cK),h=>exact h
 | some (.box _),h=>cases h
 | some (.row ..),h=>cases h
theorem H5.sub{c:Ctx}{G:Gh}{lk lk':Nat->Option av}{w:World}(h:H5 c G lk w)(ht:∀ id τ xs,lk' id=some (.aC τ xs)->lk id=some (.aC τ xs))(ho:∀ i o,lk' i=some o->∃ o',lk i=some o'):H5 c G lk' w where
 tr id τ xs k:=h.tr id τ xs (ht id τ xs k)
 nd id τ xs k:=h.nd id τ xs (ht id τ xs k)
 pl id τ xs b k hb:=by
  obtain⟨h1,h2,h3,h4⟩:=h.pl id τ xs b (ht id τ xs k) hb;exact⟨h1,h2,h3,λ i o hi=>(ho i o hi).elim λ o' cI=>h4 i o' cI⟩
 ap id dk τ aU xs cK b k k':=h.ap id dk τ aU xs cK b (ht id τ xs k) (ht dk aU cK k')
theorem bf.bQ{c:Ctx}{G:Gh}{sl:Nat->AV}{n:Nat}{lk:Nat->Option av}{a:Act}{w:World}(h:bf c G sl n lk a w)(id:Nat) :
  bf c G (λ i=>(sl i).kill id) n (λ i=>(lk i).map (av.kill id)) a w:=by
 have h1:bf c G (λ i=>(sl i).kill id) n lk a w:=h.forget λ i=>X7 id (sl i);exact {
  defers:=h1.defers,size:=h1.size,keep:=h1.keep,ju:=h1.ju,eo:=h1.eo,sX:=h1.sX,dx:=h1.dx
  aA:=λ i=>(h1.aA i).mono (λ j _=>⟨Jo id _,rfl⟩) (λ _ h=>h) (λ _ _=>rfl)
  aK:=λ i o ho=>by
   rw[b6C] at ho;obtain⟨o',cI,rfl⟩:=ho;exact ((h1.aK i o' cI).kill id).mono rfl (λ _ _=>rfl) (λ j _=>⟨Jo id _,rfl⟩) (λ _ h=>h) (λ _ _=>rfl)
  place:=λ i o b ho hb=>by
   rw[b6C] at ho;obtain⟨o',cI,rfl⟩:=ho;exact h1.place i o' b cI hb
  apart:=λ i j o o' b ho cI hb cw=>by
   rw[b6C] at ho cI;obtain⟨p,hp,rfl⟩:=ho;obtain⟨q,hq,rfl⟩:=cI;exact h1.apart i j p q b hp hq hb cw
  aP:=h1.aP.sub (λ i τ xs k=>jl k) (λ i o k=>by
   rw[b6C] at k;obtain⟨p,hp,_⟩:=k;exact⟨p,hp⟩)
  root:=λ i v hr ht=>h1.root i v hr (by
   match hl:lk i,ht with
   | some (.aC ..),_=>rfl
   | some (.box _),ht=>simp[hl,av.kill,cR] at ht
   | some (.row ..),ht=>simp[hl,av.kill,cR] at ht
   | none,ht=>simp[hl,cR] at ht)
  fZ:=h1.fZ
  dj:=λ i v hr ht=>h1.dj i v hr (by
   match hl:lk i,ht with
   | some (.box _),_=>rfl
   | some (.aC ..),ht=>simp[hl,av.kill,fR] at ht
   | some (.row ..),ht=>simp[hl,av.kill,fR] at ht
   | none,ht=>simp[hl,fR] at ht)
  eQ:=h1.eQ }
theorem bf.a7G{c:Ctx}{G:Gh}{sl:Nat->AV}{n:Nat}{lk:Nat->Option av}{a:Act}{w:World}(h:bf c G sl n lk a w)(id:Nat)
  (hs:∀ i,(sl i).refs id=false) (ho:∀ i o,lk i=some o->i≠id->o.refs id=false):bf c G sl n (λ i=>if i=id then none else lk i) a w:=by
 have fG:∀ j,j≠id->eC (lk j) ((λ i=>if i=id then none else lk i) j):=λ j hj=>by simp only[b5I hj];exact eC.refl _
 exact {
  defers:=h.defers,size:=h.size,keep:=h.keep,ju:=h.ju,eo:=h.eo,sX:=h.sX,dx:=h.dx
  aA:=λ i=>(h.aA i).mono (λ j hj=>⟨fG j (λ e=>by subst e;rw[hs i] at hj;cases hj),rfl⟩) (λ _ h=>h) (λ _ _=>rfl)
  aK:=λ i o cq=>by
   by_cases hi:i=id
   .simp[hi] at cq
   .simp only[b5I hi] at cq;exact (h.aK i o cq).mono rfl (λ _ _=>rfl) (λ j hj=>⟨fG j (λ e=>by subst e;rw[ho i o cq hi] at hj;cases hj),rfl⟩) (λ _ h=>h) (λ _ _=>rfl)
  place:=λ i o b cq hb=>by
   by_cases hi:i=id
   .simp[hi] at cq
   .simp only[b5I hi] at cq;exact h.place i o b cq hb
  apart:=λ i j o o' b cq IV hb cw=>by
   by_cases hi:i=id
   .simp[hi] at cq
   .by_cases hj:j=id
    .simp[hj] at IV
    .simp only[b5I hi] at cq;simp only[b5I hj] at IV;exact h.apart i j o o' b cq IV hb cw
  aP:=h.aP.sub (λ i τ xs k=>by
   by_cases hi:i=id
   .simp[hi] at k
   .simpa only[if_neg hi] using k) (λ i o k=>by
   by_cases hi:i=id
   .simp[hi] at k
   .exact⟨o,by simpa only[if_neg hi] using k⟩)
  root:=λ i v hr ht=>h.root i v hr (by
   by_cases hi:i=id
   .simp[hi,cR] at ht
   .simpa only[if_neg hi] using ht)
  fZ:=h.fZ
  dj:=λ i v hr ht=>h.dj i v hr (by
   by_cases hi:i=id
   .simp[hi,fR] at ht
   .simpa only[if_neg hi] using ht)
  eQ:=h.eQ }
theorem bf.newObj{c:Ctx}{G:Gh}{sl:Nat->AV}{n:Nat}{lk:Nat->Option av}{a:Act}{w:World}(h:bf c G sl n lk a w)(id:Nat)(o:av)(x:Value)
  (aS:lk id=none) (hs:∀ i,(sl i).refs id=false) (ho:∀ i o,lk i=some o->o.refs id=false) (hor:o.refs id=false)
  (pZ:OR c ⟨G.S,λ i=>if i=id then x else G.η i,G.φ⟩ (λ i=>if i=id then some o else lk i) w id o)
  (My:cR (some o)=false) (bp:fR (some o)=false\/id<400000) (hblk:∀ b,dD x=some b->(c.w0.heap.size<=b\/c.X b)/\¬ G.S b/\b<w.heap.size/\(∀ i o',lk i=some o'->dD (G.η i)≠some b)/\∀ j τ xs,lk j=some (.aC τ xs)->b∉G.φ j) :
  bf c ⟨G.S,λ i=>if i=id then x else G.η i,G.φ⟩ sl n (λ i=>if i=id then some o else lk i) a w:=by
 have fG:∀ j,j≠id->eC (lk j) ((λ i=>if i=id then some o else lk i) j)/\(if j=id then x else G.η j)=G.η j:=λ j hj=>by simp only[b5I hj];exact⟨eC.refl _,af⟩
 exact {
  defers:=h.defers,size:=h.size,keep:=h.keep,ju:=h.ju,eo:=h.eo,sX:=h.sX,dx:=h.dx
  aA:=λ i=>(h.aA i).mono (λ j hj=>fG j (λ e=>by subst e;rw[hs i] at hj;cases hj)) (λ _ h=>h) (λ _ _=>rfl)
  aK:=λ i o' cq=>by
   by_cases hi:i=id
   .subst hi;simp only[b7D,b5E] at cq;subst cq;exact pZ
   .simp only[b5I hi] at cq;exact (h.aK i o' cq).mono (by simp only[b5I hi]) (λ _ _=>rfl) (λ j hj=>fG j (λ e=>by subst e;rw[ho i o' cq] at hj;cases hj)) (λ _ h=>h) (λ _ _=>rfl)
  place:=λ i o' b cq hb=>by
   by_cases hi:i=id
   .simp only[b5Q hi] at hb;obtain⟨h1,h2,h3,_⟩:=hblk b hb;exact⟨h1,h2,h3⟩
   .simp only[b5I hi] at cq hb;exact h.place i o' b cq hb
  apart:=λ i j o1 o2 b cq IV hb cw=>by
   by_cases hi:i=id
   .by_cases hj:j=id
    .rw[hi,hj]
    .simp only[b5I hj] at IV cw;simp only[b5Q hi] at hb;exact absurd cw ((hblk b hb).2.2.2.1 j o2 IV)
   .by_cases hj:j=id
    .simp only[b5I hi] at cq hb;simp only[b5Q hj] at cw;exact absurd hb ((hblk b cw).2.2.2.1 i o1 cq)
    .simp only[b5I hi] at cq hb;simp only[b5I hj] at IV cw;exact h.apart i j o1 o2 b cq IV hb cw
  aP:=by
   have hold:∀ j τ xs,(if j=id then some o else lk j)=some (.aC τ xs)->j≠id/\lk j=some (.aC τ xs):=λ j τ xs k=>by
    by_cases hj:j=id
    .rw[b5Q hj] at k;cases k;cases My
    .rw[b5I hj] at k;exact⟨hj,k⟩
   exact {
    tr:=λ j τ xs k=>by
     obtain⟨h1,h2⟩:=hold j τ xs k;simp only[b5I h1];exact h.aP.tr j τ xs h2
    nd:=λ j τ xs k=>h.aP.nd j τ xs (hold j τ xs k).2
    pl:=λ j τ xs b k hb=>by
     obtain⟨h1,h2,h3,h4⟩:=h.aP.pl j τ xs b (hold j τ xs k).2 hb;refine⟨h1,h2,h3,λ i p uQ=>?_⟩;by_cases hi:i=id
     .simp only[b5Q hi];exact λ e=>(hblk b e).2.2.2.2 j τ xs (hold j τ xs k).2 hb
     .simp only[b5I hi] at uQ ⊢;exact h4 i p uQ
    ap:=λ j j' τ aU xs cK b k k'=>h.aP.ap j j' τ aU xs cK b (hold j τ xs k).2 (hold j' aU cK k').2 }
  root:=λ i v hr ht=>by
   by_cases hi:i=id
   .simp only[b5Q hi] at ht;rw[My] at ht;cases ht
   .simp only[b5I hi] at ht ⊢;exact h.root i v hr ht
  fZ:=h.fZ
  dj:=λ i v hr ht=>by
   by_cases hi:i=id
   .subst hi;rcases bp with bp|bp
    .simp only[b7D] at ht;rw[bp] at ht;cases ht
    .have:=h.eQ i v hr;omega
   .simp only[b5I hi] at ht ⊢;exact h.dj i v hr ht
  eQ:=h.eQ }
theorem bf.Wh{c:Ctx}{G:Gh}{sl:Nat->AV}{n:Nat}{lk:Nat->Option av}{a:Act}{w w':World}(h:bf c G sl n lk a w)(id:Nat)(o o':av)(b:Nat)(aS:lk id=some o)(hb:dD (G.η id)=some b)
  (fG:eC (some o) (some o')) (My:cR (some o')=false) (hw:∀ k,k≠b->w'.heap[k]?=w.heap[k]?) (hos:w'.os=w.os) (a0f:w'.tape=w.tape) (Ul:w'.output=w.output) (E2:w'.heap.size=w.heap.size)
  (pZ:OR c G (λ i=>if i=id then some o' else lk i) w' id o'):bf c G sl n (λ i=>if i=id then some o' else lk i) a w':=by
 obtain⟨XR,hp2,hp3⟩:=h.place id o b aS hb;have cb:∀ k,St c G.S k->w'.heap[k]?=w.heap[k]?:=λ k hk=>hw k λ e=>by
  subst e;rcases hk with hk|hk
  .exact hp2 hk
  .exact XR.elim (λ q=>by omega) hk.2.1
 have hs:∀ j,eC (lk j) ((λ i=>if i=id then some o' else lk i) j):=λ j=>by
  by_cases hj:j=id
  .subst hj;simp only[b7D];rw[aS];exact fG
  .simp only[b5I hj];exact eC.refl _
 exact {
  defers:=h.defers,size:=h.size
  keep:=h.keep.trans (Y:=λ k=>c.w0.heap.size<=k\/c.X k) ⟨hos,a0f,Ul,Nat.le_of_eq E2.symm,λ k _ hx=>hw k λ e=>by subst e;exact hx XR⟩ λ i hi hy=>hy.elim (λ h=>by omega) (λ h=>h)
  ju:=h.ju,eo:=h.eo,sX:=h.sX
  dx:=λ k hk=>by rw[E2];exact h.dx k hk
  aA:=λ i=>(h.aA i).mono (λ j _=>⟨hs j,rfl⟩) (λ _ h=>h) cb
  aK:=λ i p hp=>by
   by_cases hi:i=id
   .subst hi;simp only[b7D,b5E] at hp;subst hp;exact pZ
   .simp only[b5I hi] at hp;exact (h.aK i p hp).mono rfl (λ k hk=>hw k λ e=>by subst e;exact hi (h.apart i id p o _ hp aS hk hb)) (λ j _=>⟨hs j,rfl⟩) (λ _ h=>h) cb
  place:=λ i p k hp hk=>by
   rw[E2];by_cases hi:i=id
   .subst hi;exact h.place i o k aS hk
   .simp only[b5I hi] at hp;exact h.place i p k hp hk
  apart:=λ i j p q k hp hq hk iP=>by
   by_cases hi:i=id
   .by_cases hj:j=id
    .rw[hi,hj]
    .simp only[b5I hj] at hq;rw[hi] at hk ⊢;exact h.apart id j o q k aS hq hk iP
   .simp only[b5I hi] at hp;by_cases hj:j=id
    .rw[hj] at iP ⊢;exact h.apart i id p o k hp aS hk iP
    .simp only[b5I hj] at hq;exact h.apart i j p q k hp hq hk iP
  aP:=by
   have hold:∀ j τ xs,(if j=id then some o' else lk j)=some (.aC τ xs)->lk j=some (.aC τ xs):=λ j τ xs k=>by
    by_cases hj:j=id
    .rw[b5Q hj] at k;cases k;cases My
    .rwa [b5I hj] at k
   exact {
    tr:=λ j τ xs k=>(h.aP.tr j τ xs (hold j τ xs k)).keep λ k' iP=>hw k' λ e=>by
     subst e;exact (h.aP.pl j τ xs _ (hold j τ xs k) iP).2.2.2 id o aS hb
    nd:=λ j τ xs k=>h.aP.nd j τ xs (hold j τ xs k)
    pl:=λ j τ xs b' k cw=>by
     obtain⟨h1,h2,h3,h4⟩:=h.aP.pl j τ xs b' (hold j τ xs k) cw;refine⟨h1,h2,by rw[E2];exact h3,λ i p uQ=>?_⟩;by_cases hi:i=id
     .rw[hi];exact h4 id o aS
     .rw[b5I hi] at uQ;exact h4 i p uQ
    ap:=λ j j' τ aU xs cK b' k k'=>h.aP.ap j j' τ aU xs cK b' (hold j τ xs k) (hold j' aU cK k') }
  root:=λ i v hr ht=>by
   by_cases hi:i=id
   .simp only[b5Q hi] at ht;rw[My] at ht;cases ht
   .simp only[b5I hi] at ht;exact h.root i v hr ht
  fZ:=h.fZ
  dj:=λ i v hr ht=>by
   by_cases hi:i=id
   .subst hi;simp only[b7D] at ht;refine h.dj i v hr ?_;rw[aS];cases o with
    | box cs=>rfl
    | row e τ xs=>obtain⟨e',cK,q,_⟩:=fG.2.1 e τ xs rfl;rw[q] at ht;cases ht
    | aC τ xs=>have h3:cR (some o')=true:=fG.2.2.1 rfl;rw[My] at h3;cases h3
    | map m =>
     obtain⟨b1,_,_,k1,_⟩:=h.aK i _ aS;match o',ht with
     | .box cs,_ =>
      obtain⟨b2,_,_,k2,_⟩:=pZ;rw[k1] at k2;cases k2
   .simp only[b5I hi] at ht;exact h.dj i v hr ht
  eQ:=h.eQ }
def xu:Ty->Value->Bool
 | .int k, .int k' n=>decide (k=k')&&decide (n=0)
 | .bool, .bool b => !b
 | .str, .string s=>s.data.toList.isEmpty
 | .slice _, .slice none 0 0=>true
 | .ptr, .pointer none=>true
 | _,_=>false
def LN:List Ty->List Value->Bool
 | [],[]=>true
 | t::ts,v::vs=>xu t v&&LN ts vs
 | _,_=>false
def yK(τ:Ty)(v:Value):Bool :=
 match τ,v with
 | .st s, .agg cs=>LN s.oj cs.toList
 | .st _,_=>false
 | τ,v=>xu τ v
def PA(P:Program)(T:TypeId)(τ:Ty):Bool :=
 match P.info? T with
 | some i=>Nat.beq i.size τ.size&&(match i.zero with
  | some z=>yK τ z
  | none=>false)
 | none=>false
def Gg(E:Env)(s:aH):Nat->List Field->List Ty->Bool
 | _,[],[]=>true
 | i,f::fs,t::ts=>(match ai E.ty f.type with
   | some (τ,_)=>decide (τ=t)
   | none=>false)&&Nat.beq f.offset (s.dL i)&&Gg E s (i+1) fs ts
 | _,_,_=>false
def pN(P:Program)(E:Env)(T:TypeId)(τ:Ty)(b e:Nat):Bool :=
 PA P T τ&&match τ with
  | .int k=>match P.underlying T with
   | some (.int k')=>decide (k=k')
   | _=>false
  | .bool=>match P.underlying T with
   | some .bool=>true
   | _=>false
  | .str=>match P.underlying T with
   | some .string=>true
   | _=>false
  | .slice t=>match P.underlying T with
   | some (.slice e')=>Nat.beq e e'&&(match ai E.ty e with
     | some (aU,_)=>decide (aU=t)
     | none=>false)&&(match P.info? e with
     | some i=>Nat.beq i.bytes b
     | none=>false)&&PA P e t
   | _=>false
  | .st s=>(match s.arr with
   | false=>match P.underlying T with
    | some (.struct fs)=>Gg E s 0 fs.toList s.c9
    | _=>false
   | true=>match P.underlying T with
    | some (.array n e)=>Nat.beq n s.c9.length&&s.c9.all λ t=>match ai E.ty e with
     | some (aU,_)=>decide (aU=t)
     | none=>false
    | _=>false)
  | .mv _=>false
  | .ptr=>match P.underlying T with
   | some (.pointer _)=>true
   | _=>false
def Ry(P:Program)(E:Env)(T:TypeId)(κ ε:Ty):Bool:=match P.underlying T with
 | some (.map k e)=>match ai E.ty k,ai E.ty e with
  | some (κ',_),some (ε',_)=>decide (κ'=κ)&&(decide (ε'=ε)&&(κ.HI&&(ε.key&&Nat.blt 0 P.types.size)))
  | _,_=>false
 | _=>false
structure Info(P:Program)(T:TypeId)(τ:Ty):Prop where
 ex:∃ i z,P.info? T=some i/\i.size=τ.size/\i.zero=some z/\yK τ z=true
theorem XX{P:Program}{T:TypeId}{τ:Ty}(h:PA P T τ=true):Info P T τ:=by
 unfold PA at h;split at h
 .rename_i i hi;simp only[b5M] at h;obtain⟨h1,h2⟩:=h;split at h2
  .rename_i z hz;exact⟨i,z,hi,b5G h1,hz,h2⟩
  .cases h2
 .cases h
def vC(P:Program)(w:World)(S:Nat->Prop):Arg->Value->Prop
 | .cO v,x=>∃ f ew l,x = .func (.func f) #[] l.toArray/\Bt P f ew v.ps v.r v.F []/\aM (H2 w S) ew l
 | a,x=>H2 w S a x
theorem vC.of0{P:Program}{w:World}{S:Nat->Prop}{a:Arg}{x:Value}(h:H2 w S a x):vC P w S a x:=by
 cases a with
 | cO v=>exact h.elim
 | own v=>exact h.elim
 | box k=>exact h.elim
 | _=>exact h
def gN(P:Program)(f:FuncId)(args:List Arg)(post:List TV->Prop):Prop :=
 ∀ (w:World) (S:Nat->Prop) (bK:List Value),pO w S->aM (vC P w S) args bK ->
  Calls P f bK.toArray w λ e w'=>∃ x S' res,e = .returned x/\post res/\bX (λ _=>False) w w'/\(∀ b,b<w.heap.size->(S' b↔S b))/\(∀ b,S' b->b<w'.heap.size)/\Hk w' S' res x
def yM(w:World)(v:TV)(x:Value)(fp:List Nat):Prop :=
 match v with
 | ⟨.st s,y⟩=>∃ cs,x = .agg cs.toArray/\Ow w (s.aL y) cs fp
 | v=>Ow w v.aL [x] fp
def JG(w:World):List TV->List Value->List Nat->Prop
 | [],[],fp=>fp=[]
 | v::vs,x::xs,fp=>∃ f1 f2,fp=f1++f2/\yM w v x f1/\JG w vs xs f2
 | _,_,_=>False
def H4(w:World):List TV->Value->List Nat->Prop
 | [v],x,fp=>yM w v x fp
 | vs,x,fp=>∃ l,x = .tuple l.toArray/\JG w vs l fp
def td(P:Program)(w:World)(S:Nat->Prop):List Arg->List Value->List Nat->Prop
 | [],[],fp=>fp=[]
 | a::Z9,x::xs,fp=>∃ f1 f2,fp=f1++f2/\(match a with
  | .own v=>yM w v x f1
  | a=>f1=[]/\vC P w S a x)/\td P w S Z9 xs f2
 | _,_,_=>False
def vH(P:Program)(f:FuncId)(args:List Arg)(res:List TV):Prop :=
 ∀ (w:World) (S:Nat->Prop) (bK:List Value) (fa:List Nat),pO w S->td P w S args bK fa->(fa=[]\/∀ a∈args,a.Js=true)->fa.Nodup->(∀ b∈fa,b<w.heap.size/\¬ S b) ->
  Calls P f bK.toArray w λ e w'=>∃ x fp,e = .returned x/\bX (λ b=>b∈fa) w w'/\H4 w' res x fp/\fp.Nodup/\∀ b∈fp,b∈fa\/(w.heap.size<=b/\b<w'.heap.size)
theorem td.RR{P:Program}{w:World}{S:Nat->Prop}:∀ {Z9:List Arg} {xs:List Value},aM (vC P w S) Z9 xs->td P w S Z9 xs []
 | [],[],_=>rfl
 | a::Z9,x::xs,h=>by
  refine⟨[],[],rfl,?_,td.RR h.2⟩;cases a with
  | own v=>exact h.1.elim
  | box k=>exact h.1.elim
  | _=>exact⟨rfl,h.1⟩
 | [],_::_,h=>h.elim
 | _::_,[],h=>h.elim
def U1(P:Program)(f:FuncId)(m:WZ):Prop :=
 ∀ (x:m.τ.den) (k:Int) (w:World) (v:Value) (fp:List Nat),(m.g x k).1.ok->ag k->Gok w (λ b=>b<w.heap.size/\b∉fp)->yM w ⟨m.τ,x⟩ v fp->fp.Nodup->(∀ b∈fp,b<w.heap.size) ->
  Calls P f #[v, .int .i64 k] w λ e w'=>e = .returned (.int .i64 (m.g x k).2.2)/\ag (m.g x k).2.2/\bX (λ b=>b∈fp) w w'/\∃ EL,yM w' ⟨m.τ,(m.g x k).2.1⟩ v EL/\EL.Nodup/\∀ b∈EL,b∈fp\/(w.heap.size<=b/\b<w'.heap.size)
def iJ(w:World)(S:Nat->Prop)(B:Nat->Nat):List CK->List TV->List Value->List Nat->Prop
 | [],[],[],fp=>fp=[]
 | .d τ::ks,v::ds,x::xs,fp=>(v.τ=τ/\τ.agg=false/\Rd w S v.aL [x])/\iJ w S B ks ds xs fp
 | .o τ::ks,v::ds,x::xs,fp=>∃ f1 f2,fp=f1++f2/\(v.τ=τ/\τ.agg=false/\Ow w v.aL [x] f1)/\iJ w S B ks ds xs f2
 | .p j::ks,ds,x::xs,fp=>x = .pointer (some ⟨B j,0,none⟩)/\iJ w S B ks ds xs fp
 | _,_,_,_=>False
def ft(w:World)(S:Nat->Prop)(B:Nat->Nat):Nat->List (List CK)->List (List TV)->List Nat->Prop
 | _,[],[],fp=>fp=[]
 | k,ks::sh,ds::bz,fp=>∃ l t f1 f2,fp=f1++f2/\w.heap[B k]?=some (.cells l.toArray t (0,0))/\iJ w S B ks ds l f1/\ft w S B (k+1) sh bz f2
 | _,_,_,_=>False
def a8M(w:World)(S X:Nat->Prop):Arg->Value->Prop
 | .val v,x=>dE w S v x
 | .ref v,x=>∃ b o cs,x = .pointer (some ⟨b,o,none⟩)/\b<w.heap.size/\¬ X b/\bP w b o cs/\Rd w S v.aL cs
 | .fn f,x=>x = .func (.func f) #[] #[]
 | _,_=>False
def NA(P:Program)(w:World)(S X:Nat->Prop)(B:Nat->Nat):Arg->Value->Prop
 | .box k,x=>x = .pointer (some ⟨B k,0,none⟩)
 | .val v,x=>dE w S v x
 | .ref v,x=>∃ b o cs,x = .pointer (some ⟨b,o,none⟩)/\b<w.heap.size/\¬ X b/\bP w b o cs/\Rd w S v.aL cs
 | .fn f,x=>x = .func (.func f) #[] #[]
 | .cO v,x=>∃ f ew l,x = .func (.func f) #[] l.toArray/\Bt P f ew v.ps v.r v.F []/\aM (a8M w S X) ew l
 | .own _,_=>False
def BX(n:Nat)(B:Nat->Nat)(fa:List Nat)(b:Nat):Prop:=b∈fa\/∃ k,k<n/\b=B k
def U5(P:Program)(f:FuncId)(sh:List (List CK))(res:List TV)(dz:List (List TV))(w:World)(S:Nat->Prop)(B:Nat->Nat)(bK:List Value)(fa:List Nat):Prop :=
 Calls P f bK.toArray w λ e w'=>∃ x S' fp Iw,e = .returned x/\bX (BX sh.length B fa) w w'/\(∀ b,S b->S' b)/\(∀ b,S' b->b<w'.heap.size)/\(∀ b,b<w.heap.size->¬ BX sh.length B fa b->(S' b↔S b)) /\
  H4 w' res x fp/\ft w' S' B 0 sh dz Iw/\(fp++Iw).Nodup/\(∀ b∈fp++Iw,(b∈fa\/(w.heap.size<=b/\b<w'.heap.size))/\¬ S' b/\∀ k,k<sh.length->B k≠b)/\∀ k,k<sh.length->¬ S' (B k)
def JF(P:Program)(f:FuncId)(sh:List (List CK))(args:List Arg)(bz:List (List TV))(res:List TV)(dz:List (List TV)):Prop :=
 ∀ (w:World) (S:Nat->Prop) (B:Nat->Nat) (bK:List Value) (fa:List Nat),pO w S->ft w S B 0 sh bz fa->fa.Nodup->(∀ b∈fa,b<w.heap.size/\¬ S b/\∀ k,k<sh.length->B k≠b) ->
  (∀ k,k<sh.length->B k<w.heap.size/\¬ S (B k))->(∀ j k,j<sh.length->k<sh.length->B j=B k->j=k)->aM (NA P w S (BX sh.length B fa) B) args bK->U5 P f sh res dz w S B bK fa
theorem gN.ok0{P:Program}{f:FuncId}{args:List Arg}{post:List TV->Prop}(h:gN P f args post):JE P f args post :=
 λ w S bK hS ha=>h w S bK hS (ha.imp λ _ _ _ hx => .of0 hx)
def a3z(w:World)(S T:Nat->Prop)(x:Value):a1e->Prop
 | .box cells=>∃ b l t,x = .pointer (some ⟨b,0,none⟩)/\w.heap[b]?=some (.cells l.toArray t (0,0))/\aM (λ v x=>v.τ.agg=false/\Rd w S v.aL [x]) cells l
 | .row e τ xs=>∃ l,w.ownsRow 0 e τ.size x xs.length l/\dP w S (xs.map τ.aL) l/\xs.length<=140737488355328
 | .res l=>∃ ys,x = .tuple ys.toArray/\aM (λ r x=>match r with
  | (true,v)=>∃ b o cs,x = .pointer (some ⟨b,o,none⟩)/\(S b\/T b)/\bP w b o cs/\Rd w S v.aL cs
  | (false,v)=>dE w S v x) l ys
def Zh(P:Program)(f:FuncId)(args:List Arg)(o:a1e):Prop :=
 ∀ (w:World) (S T:Nat->Prop) (bK:List Value),pO w S->(∀ x∈bK,∀ a:Addr,x = .pointer (some a)->T a.block)->aM (vC P w S) args bK ->
  Calls P f bK.toArray w λ e w'=>∃ x S',e = .returned x/\bX (λ _=>False) w w'/\(∀ k,k<w.heap.size->(S' k↔S k))/\(∀ k,S' k->k<w'.heap.size) /\
   (∀ b,dD x=some b->w.heap.size<=b/\b<w'.heap.size/\¬ S' b)/\a3z w' S' T x o
def Ga(P:Program)(f:FuncId)(Z9:List Arg)(τ:Ty)(xs ys:List τ.den):Prop :=
 ∀ (w:World) (S:Nat->Prop) (bK:List Value) (v:Value) (fp:List Nat),pO w S->aM (NA P w S (λ b=>b∈fp) (λ _=>0)) Z9 bK->yM w ⟨.slice τ,xs⟩ v fp->fp.Nodup->(∀ b∈fp,b<w.heap.size/\¬ S b) ->
  Calls P f (bK++[v]).toArray w λ e w'=>∃ r,e = .returned r/\bX (λ b=>b∈fp) w w'/\∃ EL,yM w' ⟨.slice τ,ys⟩ v EL/\EL.Nodup/\∀ b∈EL,b∈fp\/(w.heap.size<=b/\b<w'.heap.size)
structure bl(P:Program)(E:Env):Prop where
 ty:∀ T τ b e,ai E.ty T=some (τ,b,e)->pN P E T τ b e=true
 K7:∀ T κ ε,ai E.K7 T=some (κ,ε)->Ry P E T κ ε=true
 Ws:∀ T τ,ai E.Ws T=some τ->True
 Mf:∀ f args pre res,E.Mf f args=some (pre,res)->pre.ok->j9 P f/\gN P f args (·=res)
 Lb:∀ f args pre res,E.Lb f args=some (pre,res)->pre.ok->j9 P f/\vH P f args res
 mark:∀ f m,E.mark f=some m->j9 P f/\U1 P f m
 RG:∀ f args pre o,E.RG f args=some (pre,o)->pre.ok->j9 P f/\Zh P f args o
 Oo:∀ f Z9 τ xs pre ys,E.Oo f Z9 τ xs=some (pre,ys)->pre.ok->j9 P f/\Ga P f Z9 τ xs ys
 UJ:∀ f sk args bz pre res dz,E.sk f=some sk->E.UJ f args bz=some (pre,res,dz)->pre.ok->j9 P f/\JF P f sk.sh args bz res dz
section
variable {P:Program} {E:Env} {T:TypeId} {τ:Ty} {b e:Nat}
theorem bl.info(hE:bl P E)(h:ai E.ty T=some (τ,b,e)):Info P T τ:=by
 have:=hE.ty _ _ _ _ h;unfold pN at this;simp only[Bool.and_eq_true] at this;exact XX this.1
theorem bl.int(hE:bl P E){k:IntKind}(h:ai E.ty T=some (.int k,b,e)):P.underlying T=some (.int k):=by
 have:=hE.ty _ _ _ _ h;unfold pN at this;simp only[Bool.and_eq_true] at this;have h2:=this.2;split at h2
 .rename_i k' hk;rw[hk,b6n h2]
 .cases h2
theorem bl.bool(hE:bl P E)(h:ai E.ty T=some (.bool,b,e)):P.underlying T=some .bool:=by
 have:=hE.ty _ _ _ _ h;unfold pN at this;simp only[Bool.and_eq_true] at this;have h2:=this.2;split at h2
 .assumption
 .cases h2
theorem bl.str(hE:bl P E)(h:ai E.ty T=some (.str,b,e)):P.underlying T=some .string:=by
 have:=hE.ty _ _ _ _ h;unfold pN at this;simp only[Bool.and_eq_true] at this;have h2:=this.2;split at h2
 .assumption
 .cases h2
theorem bl.slice(hE:bl P E){t:Ty}(h:ai E.ty T=some (.slice t,b,e)) :
  P.underlying T=some (.slice e)/\(∃ b' e',ai E.ty e=some (t,b',e'))/\(∃ i z,P.info? e=some i/\i.size=t.size/\i.bytes=b/\i.zero=some z/\yK t z=true):=by
 have:=hE.ty _ _ _ _ h;unfold pN at this;simp only[Bool.and_eq_true] at this;have h2:=this.2;split at h2
 .rename_i e' AG;simp only[b5M] at h2;obtain⟨⟨⟨h3,h4⟩,h5⟩,h6⟩:=h2;have h3:=b5G h3;subst h3;split at h4
  .rename_i aU r hl;have h4:=b6n h4;subst h4;obtain⟨i,z,hi,hs,hz,hzo⟩:=(XX h6).ex;rw[hi] at h5;exact⟨AG,⟨_,_,hl⟩,i,z,hi,hs,b5G h5,hz,hzo⟩
  .cases h4
 .cases h2
theorem Ki{s:aH}:∀ (n:Nat) (fs:List Field) (ts:List Ty),Gg E s n fs ts=true->fs.length=ts.length /\
  ∀ i f,fs[i]?=some f->∃ t b e,ts[i]?=some t/\ai E.ty f.type=some (t,b,e)/\f.offset=s.dL (n+i)
 | _,[],[],_=>⟨rfl,by simp⟩
 | n,f::fs,t::ts,h=>by
  simp only[Gg,b5M] at h;obtain⟨⟨h1,h2⟩,h3⟩:=h;obtain⟨h4,h5⟩:=Ki (n+1) fs ts h3;refine⟨by simp[h4],λ i g hi=>?_⟩;cases i with
  | zero =>
   simp at hi;subst hi;split at h1
   .rename_i τ r hl;have h1:=b6n h1;subst h1;exact⟨_,_,_,rfl,hl,b5G h2⟩
   .cases h1
  | succ i =>
   obtain⟨t',b',e',k1,k2,k3⟩:=h5 i g (by simpa using hi);exact⟨t',b',e',by simpa using k1,k2,by rw[k3];congr 1;omega⟩
 | _,[],_::_,h=>by cases h
 | _,_::_,[],h=>by cases h
theorem bl.st(hE:bl P E){s:aH}(h:ai E.ty T=some (.st s,b,e))(ha:s.arr=false) :
  ∃ fs,P.underlying T=some (.struct fs)/\fs.size=s.c9.length/\∀ i f,fs[i]?=some f->∃ t b e,s.c9[i]?=some t/\ai E.ty f.type=some (t,b,e)/\f.offset=s.dL i:=by
 have:=hE.ty _ _ _ _ h;unfold pN at this;simp only[Bool.and_eq_true,ha] at this;have h2:=this.2;split at h2
 .rename_i fs hfs;obtain⟨h3,h4⟩:=Ki 0 _ _ h2;refine⟨fs,hfs,by simpa using h3,λ i f hi=>?_⟩;obtain⟨t,b',e',k1,k2,k3⟩:=h4 i f (by simpa using hi);exact⟨t,b',e',k1,k2,by simpa using k3⟩
 .cases h2
theorem bl.arr(hE:bl P E){s:aH}(h:ai E.ty T=some (.st s,b,e))(ha:s.arr=true) :
  ∃ e',P.underlying T=some (.array s.c9.length e')/\∀ t∈s.c9,∃ b e,ai E.ty e'=some (t,b,e):=by
 have:=hE.ty _ _ _ _ h;unfold pN at this;simp only[Bool.and_eq_true,ha] at this;have h2:=this.2;split at h2
 .rename_i n e' hu;simp only[b5M,b6y] at h2;refine⟨e',by rw[hu,b5G h2.1],λ t ht=>?_⟩;have h3:=h2.2 t ht;split at h3
  .rename_i aU r hl;have h3:=b6n h3;subst h3;exact⟨_,_,hl⟩
  .cases h3
 .cases h2
theorem a8H(k n:Nat):(List.replicate k n).sum=k * n:=by
 induction k with
 | zero=>simp
 | succ k ih=>rw[b7p,b9V,Nat.succ_mul,Nat.add_comm,ih]
theorem bl.Vb(hE:bl P E){n:aH}(h:ai E.ty T=some (.st n,b,e))(ha:n.arr=true){i:Nat}{t:Ty}(hi:n.c9[i]?=some t) :
  ∃ e',P.underlying T=some (.array n.c9.length e')/\(∃ b' e2,ai E.ty e'=some (t,b',e2))/\n.dL i=i * t.size:=by
 obtain⟨e',h1,h2⟩:=hE.arr h ha;obtain⟨b',e2,h3⟩:=h2 t (b6N hi);refine⟨e',h1,⟨b',e2,h3⟩,?_⟩;have gW:∀ u∈n.c9,u=t:=λ u hu=>by
  obtain⟨b3,e3,h4⟩:=h2 u hu;rw[h3] at h4;cases h4;rfl
 have hlen:=(List.getElem?_eq_some_iff.1 hi).1;unfold aH.dL;rw[show n.c9=List.replicate n.c9.length t from List.eq_replicate_iff.2 ⟨rfl,gW⟩];simp only[List.take_replicate,List.map_replicate,List.length_replicate,Nat.min_eq_left (Nat.le_of_lt hlen)];exact a8H i t.size
theorem bl.a5s(hE:bl P E){t:Ty}(h:ai E.ty T=some (.mv t,b,e)):False:=by
 have:=hE.ty _ _ _ _ h;unfold pN at this;simp at this
theorem bl.ptr(hE:bl P E)(h:ai E.ty T=some (.ptr,b,e)):∃ t,P.underlying T=some (.pointer t):=by
 have:=hE.ty _ _ _ _ h;unfold pN at this;simp only[Bool.and_eq_true] at this;have h2:=this.2;split at h2
 .rename_i t ht;exact⟨t,ht⟩
 .cases h2
theorem bl.isAgg(hE:bl P E)(h:ai E.ty T=some (τ,b,e))(w:World):(isAgg T).run P w = .ok τ.agg w:=by
 cases τ with
 | int k=>simp[Go.isAgg,b6F (hE.int h)];rfl
 | bool=>simp[Go.isAgg,b6F (hE.bool h)];rfl
 | str=>simp[Go.isAgg,b6F (hE.str h)];rfl
 | slice t=>simp[Go.isAgg,b6F (hE.slice h).1];rfl
 | st s =>
  cases ha:s.arr with
  | false=>obtain⟨fs,h1,_⟩:=hE.st h ha;simp[Go.isAgg,b6F h1];rfl
  | true=>obtain⟨e',h1,_⟩:=hE.arr h ha;simp[Go.isAgg,b6F h1];rfl
 | mv t=>exact (hE.a5s h).elim
 | ptr=>obtain⟨t,ht⟩:=hE.ptr h;simp[Go.isAgg,b6F ht];rfl
theorem bl.sizeOf(hE:bl P E)(h:ai E.ty T=some (τ,b,e))(w:World):(sizeOf T).run P w = .ok τ.size w:=by
 obtain⟨i,z,h1,h2,_⟩:=(hE.info h).ex;simp[Go.sizeOf,typeInfo,h1,h2]
theorem Ty.fi{τ:Ty}(h:τ.agg=false):τ.size=1:=by cases τ<;>first|rfl|cases h
theorem aH.size_pos(s:aH):0<s.size:=by cases s<;>decide
theorem Ty.size_pos(τ:Ty):0<τ.size:=by cases τ<;>first|exact Nat.one_pos|exact aH.size_pos _
def A2(τ:Ty)(cs:List Value):Value :=
 match τ with
 | .st _ => .agg cs.toArray
 | _=>cs.getD 0 undef
theorem jB(hE:bl P E)(h:ai E.ty T=some (τ,b,e)){w:World}{bk o:Nat}{cs:List Value}(hc:bP w bk o cs)(hl:cs.length=τ.size) :
  (Instr.loadAt T (.pointer (some ⟨bk,o,none⟩))).run P w = .ok (A2 τ cs) w:=by
 have SS:∀ j v,cs[j]?=some v->w.cell? ((⟨bk,o,none⟩:Addr).add j)=some v:=λ j v hj=>by rw[b8i];exact hc j v hj
 simp only[Instr.loadAt,Instr.sureAddr,loadVar,b6p,b6q,b6i,hE.isAgg h];cases eN:τ.agg with
 | true =>
  simp only[b7D,b6p,hE.sizeOf h,b6i];rw[<-hl,run_loadCells_list w _ cs SS];cases τ<;>first|rfl|cases eN
 | false =>
  have h1:cs.length=1:=hl.trans (Ty.fi eN);match cs,h1 with
  | [v],_ =>
   have:=hc 0 v rfl;simp only[b7W] at this;simp[run_load,this];cases τ<;>first|rfl|cases eN
end
section
variable {c:Ctx} {G:Gh} {lk:Nat->Option av} {w:World}
theorem C1.fO{v:AV}{x:Value}(h:C1 c G lk w v x):VR c G lk w v x:=by
 cases v with
 | aO v =>
  obtain⟨τ,y⟩:=v;cases τ with
  | st s=>cases h.1
  | _=>exact h.2
 | agg cs=>exact h.elim
 | hY vs=>exact h.elim
 | cO f cs=>exact h.elim
 | _=>exact h
theorem VR.UP{v:AV}{x:Value}(h:VR c G lk w v x)(hc:v.cell=true):C1 c G lk w v x:=by
 cases v with
 | aO v =>
  obtain⟨τ,y⟩:=v;cases τ with
  | st s=>cases hc
  | _=>exact⟨rfl,h⟩
 | agg cs=>cases hc
 | hY vs=>cases hc
 | cO f cs=>cases hc
 | any=>cases hc
 | _=>exact h
theorem jk{v:TV}(h:v.τ.agg=false):v.aL.leaf=true:=by
 obtain⟨τ,y⟩:=v;cases τ<;>first|rfl|exact M4 _ _ _|cases h
theorem C1.leaf{v:AV}{x:Value}(h:C1 c G lk w v x)(hc:v.cell=true):x.oneCell'=true/\x.cells = #[x]:=by
 cases v with
 | any=>cases hc
 | dY=>cases hc
 | agg cs=>cases hc
 | hY cs=>cases hc
 | cO f cs=>cases hc
 | il v=>cases hc
 | aO v =>
  obtain⟨y,h1,h2⟩:=Rd.tU (jk h.1) h.2;simp only[b5J,b5W] at h1;subst h1;exact⟨yz h2,KY h2⟩
 | nil=>rw[show x=_ from h];exact⟨rfl,rfl⟩
 | cT v=>obtain⟨b,o,cs,rfl,_⟩:=h;exact⟨rfl,rfl⟩
 | ptr i o=>obtain⟨b,_,rfl,_⟩:=h;exact⟨rfl,rfl⟩
 | row i=>obtain⟨_,_,a,n,m,rfl⟩:=h;exact⟨rfl,rfl⟩
 | aC i=>obtain⟨_,_,_,a,n,m,rfl⟩:=h;exact⟨rfl,rfl⟩
 | sub i k o z=>obtain⟨_,_,_,_,_,_,_,_,a,n,m,rfl⟩:=h;exact⟨rfl,rfl⟩
 | eJ i k o z=>cases hc
 | eA i k o=>obtain⟨b,n,cap,e,τ,xs,_,_,_,rfl⟩:=h;exact⟨rfl,rfl⟩
 | fn f=>rw[show x=_ from h];exact⟨rfl,rfl⟩
 | mp i=>obtain⟨_,_,b,rfl⟩:=h;exact⟨rfl,rfl⟩
theorem dE.cells{S:Nat->Prop}{v:TV}{x:Value}(h:dE w S v x):Rd w S v.aL x.cells.toList:=by
 obtain⟨τ,y⟩:=v;cases τ with
 | st s =>
  obtain⟨cs,rfl,h⟩:=h;show Rd w S (s.aL y) _;simpa [Value.cells] using h
 | _ =>
  obtain⟨z,h1,h2⟩:=Rd.tU (jk rfl) h;simp only[b5J,b5W] at h1;subst h1;rw[KY h2];exact h
theorem Bu.of{τ:Ty}(eN:τ.HI=true){x:τ.den}{v:Value}{S:Nat->Prop}(h:dE w S ⟨τ,x⟩ v):Bu τ x v:=by
 cases τ with
 | st s =>
  obtain⟨cs,rfl,h2⟩:=h;simp only[Ty.HI,b5M,b5K] at eN;have ht:=aH.jG s x;rw[eN.2.1] at ht;rw[aH.bT] at h2;match hc:s.cells x,ht,h2 with
  | [⟨Pl,a⟩,⟨j0,b⟩],ht,h2 =>
   simp only[hc,b6w,b7f,b5J,b5W] at ht;obtain⟨rfl,rfl⟩:=ht;simp only[hc,b6w,b7f,TV.aL,Ty.aL,Rd,cP] at h2;obtain⟨v1,r1,rfl,⟨e1,q1⟩,v2,r2,rfl,⟨e2,q2⟩,rfl⟩:=h2;simp only[b5J,b5W] at e1 e2;subst e1 e2;exact⟨a,b,hc,rfl,q1,q2⟩
 | int q=>exact oL.of (τ := .int q) (w:=w) (S:=S) rfl h
 | bool=>exact oL.of (τ := .bool) (w:=w) (S:=S) rfl h
 | str=>exact oL.of (τ := .str) (w:=w) (S:=S) rfl h
 | _=>cases eN
theorem dE.mk_{S:Nat->Prop}{v:TV}{cs:List Value}(h:Rd w S v.aL cs):dE w S v (A2 v.τ cs):=by
 obtain⟨τ,y⟩:=v;cases τ with
 | st s=>exact⟨cs,rfl,h⟩
 | _ =>
  obtain⟨z,rfl,h2⟩:=Rd.tU (jk rfl) h;exact h
def SX(G:Gh)(lk:Nat->Option av)(b:Nat):Prop:=G.S b\/(∃ id e τ xs,lk id=some (.row e τ xs)/\dD (G.η id)=some b)\/∃ id τ xs,lk id=some (.aC τ xs)/\b∈G.φ id
theorem bf.YY{c:Ctx}{G:Gh}{sl:Nat->AV}{n:Nat}{lk:Nat->Option av}{a:Act}{w:World}(h:bf c G sl n lk a w):pO w (SX G lk) :=
 ⟨λ b q=>by
  rcases q with hb|⟨id,e,τ,ys,aS,hb⟩|⟨id,τ,ys,aS,hb⟩
  .exact h.dx b hb
  .exact (h.place id _ b aS hb).2.2
  .exact (h.aP.pl id _ _ b aS hb).2.2.1,h.sOk.2.mono (λ _ q => .inl q) λ _ _=>rfl⟩
theorem SX.of{b:Nat}(h:G.S b):SX G lk b := .inl h
theorem a2h{id:Nat}{e:TypeId}{τ:Ty}{xs:List τ.den}(ho:OR c G lk w id (.row e τ xs))(aS:lk id=some (.row e τ xs)):Rd w (SX G lk) (Ty.aL (.slice τ) xs) [G.η id]:=by
 obtain⟨l,h1,h2,h3⟩:=ho;rcases h1.2 with ⟨hv,hn⟩|⟨g,cap,cur,hv,_,hh,SZ,Z5,jt,htk⟩
 .have hx:xs=[]:=b6S hn;subst hx;exact⟨none,0,by simp[hv],by simp,by simp[maxLen],by simp, .inl rfl⟩
 .refine⟨some ⟨g,0,none⟩,cap,by simp[hv],by simpa using SZ,Z5,by simpa using h3,?_⟩;refine .inr ⟨g,0,rfl, .inr (.inl ⟨id,e,τ,xs,aS,by rw[hv];rfl⟩),?_⟩;refine dP.row _ g 0 (h2.keep (λ _ h=>SX.of h) (λ _ _=>rfl)) λ j v hj=>?_;have:=h1.cells (g:=g) (by rw[hv];rfl) j v hj;rw[Addr.add_lit] at this;exact this
theorem iK.rd{S:Nat->Prop}{η:Value}{τ:Ty}{xs:List τ.den}{fp:List Nat}(h:iK w η τ xs fp){x:Value}{l:List Value}(hx:η = .tuple (x::l).toArray)(hS:∀ b∈fp,S b):Rd w S (Ty.aL (.slice τ) xs) [x]:=by
 obtain⟨v,l',a,cap,h1,h2,h3,h4,h5,h6⟩:=h;rw[hx] at h1;simp only[Value.tuple.injEq,List.toArray_inj,List.cons.injEq] at h1;obtain⟨rfl,rfl⟩:=h1;refine⟨a,cap,by simp[h2],by simpa using h3,h4,by simpa using h5,?_⟩;rcases h6 with ⟨rfl,_,_⟩|⟨b,f,t,rfl,rfl,k1,_,k2⟩
 .exact .inl rfl
 .exact .inr ⟨b,0,rfl,hS b (by simp),bI.rd _ (p:=[]) (by simpa using k1) k2 λ b hb=>hS b (by simp[hb])⟩
theorem a6r(wC:H5 c G lk w){id:Nat}{τ:Ty}{xs:List τ.den}{x:Value}(aS:lk id=some (.aC τ xs))(hx:C1 c G lk w (.aC id) x):Rd w (SX G lk) (Ty.aL (.slice τ) xs) [x]:=by
 obtain⟨_,l,h2,_⟩:=hx;exact (wC.tr id τ xs aS).rd h2 λ b hb => .inr (.inr ⟨id,τ,xs,aS,hb⟩)
theorem a9X(wC:H5 c G lk w)(kh:∀ id o,lk id=some o->OR c G lk w id o){lk':Nat->Option av}(bS:∀ id o,lk' id=some o->lk id=some o){τ:Ty}{v:AV}{x:Value}{y:τ.den}(h:jv lk' τ v=some y)
  (hv:C1 c G lk w v x):Rd w (SX G lk) (τ.aL y) [x]:=by
 cases v with
 | aO u =>
  have e:=TV.aN h;subst e;exact Rd.keep (λ _ h=>SX.of h) (λ _ _=>rfl) _ hv.2
 | nil =>
  cases τ with
  | slice t =>
   simp only[jv,b5E] at h;subst h;exact⟨none,0,by rw[show x=_ from hv];rfl,by simp,by simp[maxLen],by simp, .inl rfl⟩
  | _=>cases h
 | row id =>
  simp only[jv] at h;split at h
  .rename_i e aU xs hl;have e1:=TV.aN h;cases e1;have pd:=bS _ _ hl;rw[hv.1];exact a2h (kh _ _ pd) pd
  .cases h
 | aC id =>
  simp only[jv] at h;split at h
  .rename_i aU xs hl;have e1:=TV.aN h;cases e1;exact a6r wC (bS _ _ hl) hv
  .cases h
 | _=>cases h
theorem a6D{lk':Nat->Option av}(hU:∀ id e τ xs,lk' id≠some (.row e τ xs))(My:∀ id τ xs,lk' id≠some (.aC τ xs)){τ:Ty}{v:AV}{x:Value}{y:τ.den}(h:jv lk' τ v=some y)(hv:C1 c G lk w v x):Rd w G.S (τ.aL y) [x]:=by
 cases v with
 | aO u =>
  have e:=TV.aN h;subst e;exact hv.2
 | nil =>
  cases τ with
  | slice t =>
   simp only[jv,b5E] at h;subst h;exact⟨none,0,by rw[show x=_ from hv];rfl,by simp,by simp[maxLen],by simp, .inl rfl⟩
  | _=>cases h
 | row id =>
  simp only[jv] at h;split at h
  .rename_i hl;exact absurd hl (hU _ _ _ _)
  .cases h
 | aC id =>
  simp only[jv] at h;split at h
  .rename_i hl;exact absurd hl (My _ _ _)
  .cases h
 | _=>cases h
theorem Pq{τ:Ty}{v:AV}{x:Value}{y:τ.den}(h:jv (λ _=>none) τ v=some y)(hv:C1 c G lk w v x):Rd w G.S (τ.aL y) [x]:=by
 cases v with
 | aO u =>
  have e:=TV.aN h;subst e;exact hv.2
 | nil =>
  cases τ with
  | slice t =>
   simp only[jv,b5E] at h;subst h;exact⟨none,0,by rw[show x=_ from hv];rfl,by simp,by simp[maxLen],by simp, .inl rfl⟩
  | _=>cases h
 | _=>cases h
theorem NM{lk':Nat->Option av}{R:TV->Value->Prop}{Q:AV->Value->Prop}(hR:∀ t v x y,jv lk' t v=some y->Q v x->R ⟨t,y⟩ x):∀ {cs:List AV} {ts:List Ty} {l:List TV} {vs:List Value},P9 lk' cs ts=some l->aM Q cs vs->aM R l vs
 | [],[],l,vs,h,k=>by
  simp only[P9,b5E] at h;subst h;match vs,k with
  | [],_=>trivial
 | v::cs,t::ts,l,vs,h,k=>by
  simp only[P9] at h;split at h
  .rename_i x hx;split at h
   .rename_i r hr;simp only[b5E] at h;subst h;match vs,k with
    | u::us,k=>exact⟨hR _ _ _ _ hx k.1,NM hR hr k.2⟩
   .cases h
  .cases h
 | [],_::_,_,_,h,_=>by cases h
 | _::_,[],_,_,h,_=>by cases h
theorem H7{S:Nat->Prop}{lk':Nat->Option av}(h1:∀ τ v x (y:τ.den),jv lk' τ v=some y->C1 c G lk w v x->Rd w S (τ.aL y) [x])(hS:∀ b,G.S b->S b)
  {τ:Ty} {v:AV} {x:Value} {y:τ.den} (h:uP lk' τ v=some y) (hv:VR c G lk w v x):dE w S ⟨τ,y⟩ x:=by
 have mW:∀ (C7:∀ cs,v ≠ .agg cs),jv lk' τ v=some y->dE w S ⟨τ,y⟩ x:=by
  intro C7 ha;cases v with
  | aO u =>
   have e:=TV.aN ha;subst e;exact dE.mono (G:=G) (G':=⟨S,G.η,G.φ⟩) hv hS (λ _ _=>rfl)
  | nil =>
   have:=h1 τ .nil x y ha hv;cases τ with
   | st s=>cases ha
   | _=>exact this
  | row i =>
   have:=h1 τ (.row i) x y ha hv;cases τ with
   | st s =>
    simp only[jv] at ha;split at ha
    .have e:=TV.aN ha;cases e
    .cases ha
   | _=>exact this
  | aC i =>
   have:=h1 τ (.aC i) x y ha hv;cases τ with
   | st s =>
    simp only[jv] at ha;split at ha
    .have e:=TV.aN ha;cases e
    .cases ha
   | _=>exact this
  | agg cs=>exact absurd rfl (C7 cs)
  | _=>cases ha
 cases v with
 | agg cs =>
  cases τ with
  | st s =>
   simp only[uP] at h;split at h
   .rename_i l hl;obtain⟨vs,rfl,zq⟩:=hv;refine⟨vs,rfl,?_⟩;rw[aH.bT,aH.ni h];exact cP.vI.2 (NM (λ t u z k hk hz=>h1 t u z k hk hz) hl zq)
   .cases h
  | _=>cases h
 | _=>exact mW (by intro cs;simp) h
theorem xO(wC:H5 c G lk w)(kh:∀ id o,lk id=some o->OR c G lk w id o){lk':Nat->Option av}(bS:∀ id o,lk' id=some o->lk id=some o){τ:Ty}{v:AV}{x:Value}{y:τ.den}(h:uP lk' τ v=some y)
  (hv:VR c G lk w v x):dE w (SX G lk) ⟨τ,y⟩ x :=
 H7 (λ τ v x y h hv=>a9X wC kh bS h hv) (λ _ h=>SX.of h) h hv
theorem zZ{lk':Nat->Option av}(hU:∀ id e τ xs,lk' id≠some (.row e τ xs))(My:∀ id τ xs,lk' id≠some (.aC τ xs)){τ:Ty}{v:AV}{x:Value}{y:τ.den}(h:uP lk' τ v=some y)(hv:VR c G lk w v x):dE w G.S ⟨τ,y⟩ x :=
 H7 (λ τ v x y h hv=>a6D hU My h hv) (λ _ h=>h) h hv
theorem zY{τ:Ty}{v:AV}{x:Value}{y:τ.den}(h:uP (λ _=>none) τ v=some y)(hv:VR c G lk w v x):dE w G.S ⟨τ,y⟩ x :=
 H7 (λ τ v x y h hv=>Pq h hv) (λ _ h=>h) h hv
theorem yS{τ:Ty}{v:AV}{x:Value}{new:List AV}(h:cellsOf τ v=some new)(hv:VR c G lk w v x) :
  aM (C1 c G lk w) new x.cells.toList/\(∀ u∈x.cells.toList,u.oneCell'=true)/\new.length=τ.size:=by
 have one:v.cell=true->new=[v]->τ.size=1->aM (C1 c G lk w) new x.cells.toList/\(∀ u∈x.cells.toList,u.oneCell'=true)/\new.length=τ.size:=by
  intro hc hn hs;subst hn;have h1:=hv.UP hc;obtain⟨h2,h3⟩:=h1.leaf hc;rw[h3];exact⟨⟨h1,af⟩,by simpa using h2,by simp[hs]⟩
 cases τ with
 | st s =>
  simp only[cellsOf] at h;split at h
  .rename_i u;split at h
   .rename_i y hy;simp only[b5E] at h;subst h;have e:=TV.aN hy;subst e;obtain⟨cs,rfl,hr⟩:=hv;rw[aH.bT] at hr;have ha:=cP.vI.1 hr;refine⟨?_,?_,by simp[Ty.size,aH.gm]⟩
    .simp only[Value.cells];refine aM.dA _ (ha.imp λ u z hu hz=>⟨?_,hz⟩);have:=aH.oA s y u hu;obtain⟨aU,z'⟩:=u;cases aU with
     | st s'=>simp[TV.aL,Ty.aL,aH.bT,D.leaf] at this
     | _=>rfl
    .simp only[Value.cells];intro u hu;obtain⟨i,hi,hiu⟩:=b8k hu;have hlen:=ha.length;obtain⟨b,hb,MA⟩:=ha.at_ i (s.cells y)[i] (b6e (by omega));have cw:b=u:=by
      have:cs[i]?=some u:=by rw[b6e hi,hiu]
      rw[this] at hb;exact (b7N hb).symm
     subst cw;obtain⟨z,h1,h2⟩:=Rd.tU (aH.oA s y _ (b7a _)) MA;simp only[b5J,b5W] at h1;subst h1;exact yz h2
   .cases h
  .rename_i cs;split at h
   .rename_i hb;simp only[Option.some.injEq] at h;subst h;simp only[Bool.and_eq_true] at hb;obtain⟨l,rfl,hl⟩:=hv;refine⟨by simpa [Value.cells] using hl,?_,by simpa [Ty.size] using Nat.eq_of_beq_eq_true hb.1⟩;simp only[Value.cells];intro u hu;obtain⟨i,hi,hiu⟩:=List.getElem_of_mem hu;have hlen:=hl.length;obtain⟨b,cw,MA⟩:=hl.at_ i cs[i] (List.getElem?_eq_getElem (by omega));have hbu:b=u:=by
     have:l[i]?=some u:=by rw[b6e hi,hiu]
     rw[this] at cw;exact (b7N cw).symm
    subst hbu;exact (MA.leaf (b6y.1 hb.2 _ (b7a _))).1
   .cases h
  .cases h
 | int k =>
  simp only[cellsOf] at h;split at h
  .rename_i hc;simp only[b5E] at h;exact one hc h.symm rfl
  .cases h
 | bool =>
  simp only[cellsOf] at h;split at h
  .rename_i hc;simp only[b5E] at h;exact one hc h.symm rfl
  .cases h
 | str =>
  simp only[cellsOf] at h;split at h
  .rename_i hc;simp only[b5E] at h;exact one hc h.symm rfl
  .cases h
 | ptr =>
  simp only[cellsOf] at h;split at h
  .rename_i hc;simp only[b5E] at h;exact one hc h.symm rfl
  .cases h
 | mv t =>
  simp only[cellsOf] at h;split at h
  .rename_i hc;simp only[b5E] at h;exact one hc h.symm rfl
  .cases h
 | slice t =>
  simp only[cellsOf] at h;split at h
  .rename_i hc;simp only[b5E] at h;exact one hc h.symm rfl
  .cases h
theorem EO{cs:List AV}{l:List Value}(hl:aM (C1 c G lk w) cs l){off:Nat}{τ:Ty}{u:AV}(h:Gk cs off τ=some u) :
  VR c G lk w u (A2 τ ((l.drop off).take τ.size))/\((l.drop off).take τ.size).length=τ.size/\off+τ.size<=l.length:=by
 have hlen:=hl.length;have one:τ.size=1->(∀ s,τ ≠ .st s)->cs[off]?=some u->VR c G lk w u (A2 τ ((l.drop off).take τ.size))/\((l.drop off).take τ.size).length=τ.size/\off+τ.size<=l.length:=by
  intro hs cb hu;obtain⟨x,hx,hr⟩:=hl.at_ off u hu;have bp:off<l.length:=(b6o.1 hx).1;have he:(l.drop off).take 1=[x]:=by
   rw[b7B bp];have:=(b6o.1 hx).2;simp[this]
  rw[hs,he];refine⟨?_,rfl,by omega⟩;have:A2 τ [x]=x:=by cases τ<;>first|rfl|exact absurd rfl (cb _)
  rw[this];exact hr.fO
 cases τ with
 | st s =>
  simp only[Gk] at h;split at h
  .rename_i hb;simp only[b5E] at h;subst h;have hle:=b6R hb;refine⟨⟨_,rfl,(hl.drop off).take s.size⟩,?_,?_⟩
   .simp only[Ty.size,b6T,b7e];omega
   .simp only[Ty.size];omega
  .cases h
 | int k=>exact one rfl (by intro s;simp) h
 | bool=>exact one rfl (by intro s;simp) h
 | str=>exact one rfl (by intro s;simp) h
 | slice t=>exact one rfl (by intro s;simp) h
 | mv t=>exact one rfl (by intro s;simp) h
 | ptr=>exact one rfl (by intro s;simp) h
theorem bP.part{bk o:Nat}{l:List Value}(h:bP w bk o l)(off n:Nat):bP w bk (o+off) ((l.drop off).take n):=λ j v hj=>by
 rw[b7h] at hj;split at hj
 .rw[b8d] at hj;have:=h (off+j) v hj;rwa [<-b8E] at this
 .cases hj
theorem bP.of_heap{bk:Nat}{l:List Value}{t:TypeId}{fr:Nat×Nat}(h:w.heap[bk]?=some (.cells l.toArray t fr)):bP w bk 0 l:=λ j v hj=>by
 simp only[World.cell?,h,Nat.zero_add,Option.isSome_none];simpa using hj
theorem a0y{S:Nat->Prop}{v u:TV}{off:Nat}{τ:Ty}(h:v.part off τ=some u){l:List Value}(hl:Rd w S v.aL l) :
  u.τ=τ/\((l.drop off).take τ.size).length=τ.size/\Rd w S u.aL ((l.drop off).take τ.size):=by
 have hlen:=Rd.length _ hl;rw[show v.aL=v.τ.aL v.x from rfl,Ty.cA] at hlen;unfold TV.part at h;split at h
 .rename_i hb;simp only[b5M] at hb;simp only[b5E] at h;subst h;have h0:=b5G hb.1;have h1:=b6n hb.2;subst h0;subst h1;rw[b8h,b6J (by omega)];exact⟨rfl,hlen,hl⟩
 .split at h
  .rename_i z hz;split at h
   .rename_i hb;simp only[b5E] at h;subst h;have h1:=b6n hb;subst h1;obtain⟨aU,y⟩:=v;have key:∀ (x:Value),l[off]?=some x->z.τ.agg=false->Rd w S z.aL [x]->z.τ=z.τ/\((l.drop off).take z.τ.size).length=z.τ.size/\Rd w S z.aL ((l.drop off).take z.τ.size):=by
     intro x hx ha hr;have bp:off<l.length:=(b6o.1 hx).1;have he:(l.drop off).take 1=[x]:=by
      rw[b7B bp];have:=(b6o.1 hx).2;simp[this]
     rw[Ty.fi ha,he];exact⟨rfl,rfl,hr⟩
    cases aU with
    | st s =>
     simp only[TV.cells] at hz;rw[show TV.aL ⟨.st s,y⟩=s.aL y from rfl,aH.bT] at hl;obtain⟨x,hx,hr⟩:=(cP.vI.1 hl).at_ off z hz;refine key x hx ?_ hr;have:=aH.oA s y z (b6N hz);obtain⟨b4H,z'⟩:=z;cases b4H with
     | st s'=>simp[TV.aL,Ty.aL,aH.bT,D.leaf] at this
     | _=>rfl
    | _ =>
     simp only[TV.cells] at hz;cases off with
     | zero =>
      simp at hz;subst hz;obtain⟨x,rfl,_⟩:=Rd.tU (jk rfl) hl;exact key x rfl rfl hl
     | succ k=>simp at hz
   .cases h
  .cases h
theorem UD{id:Nat}{e:TypeId}{τ:Ty}{xs:List τ.den}(ho:OR c G lk w id (.row e τ xs)){b n cap:Nat}(e9:G.η id = .slice (some ⟨b,0,none⟩) n cap){i:Nat}(hi:i<xs.length) :
  ∃ cs,cs.length=τ.size/\bP w b (i * τ.size) cs/\Rd w G.S (τ.aL (xs.getD i τ.zero)) cs:=by
 obtain⟨l,h1,h2,h3⟩:=ho;have cr:∀ d∈xs.map τ.aL,d.size=τ.size:=by
  intro d hd;obtain⟨y,_,rfl⟩:=b5N.1 hd;exact Ty.cA τ y
 have hll:=dP.length _ h2 cr;have hat:=dP.at_ _ h2 cr i (τ.aL (xs.getD i τ.zero)) (by simp[List.getD,hi]);have hlen:=Rd.length _ hat;rw[Ty.cA] at hlen;refine⟨_,hlen,?_,hat⟩;have hc:bP w b 0 l:=λ j v hj=>by
  have:=h1.cells (g:=b) (by rw[e9];rfl) j v hj;rwa [b8i] at this
 have:=hc.part (i * τ.size) τ.size;rwa [b7P] at this
theorem a0D{S:Nat->Prop}{v:TV}{l:List Value}(hl:Rd w S v.aL l):aM (λ u x=>u.τ.agg=false/\Rd w S u.aL [x]) v.cells l:=by
 obtain⟨τ,y⟩:=v;have one:τ.agg=false->TV.cells ⟨τ,y⟩=[⟨τ,y⟩]->aM (λ u x=>u.τ.agg=false/\Rd w S u.aL [x]) (TV.cells ⟨τ,y⟩) l:=λ ha h=>by
  rw[h];have hlen:=Rd.length _ hl;rw[show TV.aL ⟨τ,y⟩=τ.aL y from rfl,Ty.cA,Ty.fi ha] at hlen;match l,hlen,hl with
  | [x],_,hl=>exact⟨⟨ha,hl⟩,af⟩
 cases τ with
 | st s =>
  rw[show TV.aL ⟨.st s,y⟩=s.aL y from rfl,aH.bT] at hl;have ha:∀ u∈s.cells y,u.τ.agg=false:=λ u hu=>by
   have h1:u.τ∈s.oj:=by rw[<-aH.jG s y];exact b5N.2 ⟨u,hu,rfl⟩
   revert h1;have:∀ t∈s.oj,t.agg=false:=by cases s<;>decide
   exact this _
  have h2:=cP.vI.1 hl;exact h2.imp λ u x hu hx=>⟨ha u hu,hx⟩
 | _=>exact one rfl rfl
theorem YA{v:TV}{u:AV}{off:Nat}{τ:Ty}(h:v.a0x off τ=some u){l:List Value}(hl:Rd w G.S v.aL l) :
  ((l.drop off).take τ.size).length=τ.size/\VR c G lk w u (A2 τ ((l.drop off).take τ.size)):=by
 cases τ with
 | st s =>
  simp only[TV.a0x] at h;split at h
  .rename_i hb;simp only[b5E] at h;subst h;have hb:=b6R hb;have h2:=a0D hl;have hlen:=h2.length;refine⟨by simp[Ty.size];omega,_,rfl,?_⟩;exact aM.dA AV.aO (((h2.drop off).take s.size).imp λ u x _ hx=>hx)
  .cases h
 | _=>cases h
theorem pt(kh:∀ id o,lk id=some o->OR c G lk w id o){lk':Nat->Option av}(bS:∀ id o,lk' id=some o->lk id=some o){τ:Ty}{v u:AV}{x:Value}(h:rC lk' τ v=some u)(hv:VR c G lk w v x) :
  ∃ b o cs,x = .pointer (some ⟨b,o,none⟩)/\bP w b o cs/\cs.length=τ.size/\VR c G lk w u (A2 τ cs):=by
 cases v with
 | cT z =>
  simp only[rC] at h;split at h
  .rename_i hb;simp only[b5E] at h;subst h;have e:=b6n hb;subst e;obtain⟨b,o,cs,h1,h2,h3,h4⟩:=hv;refine⟨b,o,cs,h1,h3,?_,dE.mk_ h4⟩;rw[Rd.length _ h4];exact Ty.cA _ _
  .cases h
 | ptr id off =>
  simp only[rC] at h;split at h
  .rename_i cs hl;obtain⟨b,h1,h2,h3⟩:=hv;obtain⟨b',l,t,k1,k2,k3⟩:=kh _ _ (bS _ _ hl);rw[h1] at k1;simp only[b8l,b5E,b7G,b5W] at k1;subst k1;obtain⟨m1,m2,m3⟩:=EO k3 h;refine⟨b,off,_,h2,?_,m2,m1⟩;have:=(bP.of_heap k2).part off τ.size;rwa [b7P] at this
  .cases h
 | eA id i off =>
  simp only[rC] at h;split at h
  .rename_i e aU xs hl;split at h
   .rename_i z hz;simp only[b5E] at h;subst h;obtain⟨b,n,cap,e1,Pl,SE,h1,h2,h3,h4⟩:=hv;have pd:=bS _ _ hl;rw[pd] at h2;simp only[b5E,av.row.injEq] at h2;obtain⟨rfl,rfl,h2⟩:=h2;have h2:=b8K h2;subst h2;obtain⟨cs,m1,m2,m3⟩:=UD (kh _ _ pd) h1 h3;obtain⟨p1,p2,p3⟩:=a0y (v:=⟨aU,xs.getD i aU.zero⟩) hz m3;subst p1;exact⟨b,_,_,h4,m2.part off _,p2,dE.mk_ p3⟩
   .obtain⟨b,n,cap,e1,Pl,SE,h1,h2,h3,h4⟩:=hv;have pd:=bS _ _ hl;rw[pd] at h2;simp only[b5E,av.row.injEq] at h2;obtain⟨rfl,rfl,h2⟩:=h2;have h2:=b8K h2;subst h2;obtain⟨cs,m1,m2,m3⟩:=UD (kh _ _ pd) h1 h3;obtain⟨p2,p3⟩:=YA (v:=⟨aU,xs.getD i aU.zero⟩) h m3;exact⟨b,_,_,h4,m2.part off _,p2,p3⟩
  .cases h
 | _=>cases h
end
theorem dV{k:IntKind}{n:Int}(h:ca k n):k.min<=n/\n<=k.max:=by
 cases k<;>first
  | exact h
  | (simp only[ca,ag] at h;simp only[IntKind.min,IntKind.max,IntKind.signed,IntKind.bits,b7D];exact⟨by omega,by omega⟩)
theorem tc{k:IntKind}{n:Int}(h:k.min<=n/\n<=k.max):k.wrap n=n:=by
 cases k<;>simp[IntKind.min,IntKind.max,IntKind.signed,IntKind.bits] at h<;>simp[IntKind.wrap,IntKind.signed,IntKind.bits]<;>(try split)<;>omega
theorem SD(n:Int):IntKind.u64.min<=IntKind.u64.wrap n/\IntKind.u64.wrap n<=IntKind.u64.max:=by
 simp[IntKind.min,IntKind.max,IntKind.signed,IntKind.bits,IntKind.wrap];omega
theorem a0p{k:IntKind}{a:Int}(h0:0<=a)(h:k.min<=a/\a<=k.max):a.toNat<2 ^ k.bits:=by
 cases k<;>simp[IntKind.min,IntKind.max,IntKind.signed,IntKind.bits] at h ⊢<;>omega
theorem a2A{k:IntKind}{a b:Int}(ha0:0<=a)(ES:0<=b)(ha:k.min<=a/\a<=k.max)(hb:k.min<=b/\b<=k.max) :
  k.wrap ((BitVec.ofInt k.bits a &&& BitVec.ofInt k.bits b).toNat:Int)=((a.toNat &&& b.toNat:Nat):Int)/\k.min<=((a.toNat &&& b.toNat:Nat):Int)/\((a.toNat &&& b.toNat:Nat):Int)<=k.max:=by
 have h1:∀ x:Int,0<=x->k.min<=x/\x<=k.max->(BitVec.ofInt k.bits x).toNat=x.toNat:=λ x h0 hx=>by
  obtain⟨n,rfl⟩:=Int.eq_ofNat_of_zero_le h0;have:=a0p h0 hx;simp only[b5R] at this ⊢;rw[show BitVec.ofInt k.bits (n:Int)=BitVec.ofNat k.bits n from BitVec.ofInt_natCast ..,BitVec.toNat_ofNat];exact Nat.mod_eq_of_lt this
 have hle:((a.toNat &&& b.toNat:Nat):Int)<=a:=by
  have := @Nat.and_le_left a.toNat b.toNat;omega
 have hr:k.min<=((a.toNat &&& b.toNat:Nat):Int)/\((a.toNat &&& b.toNat:Nat):Int)<=k.max:=by
  refine⟨?_,by omega⟩;have:k.min<=0:=by cases k<;>decide
  omega
 rw[BitVec.toNat_and,h1 a ha0 ha,h1 b ES hb];exact⟨tc hr,hr⟩
theorem P8{op:BinOp}{k yk:IntKind}{a b r:Int}{p:Vc}(h:arith op k a b=some (p,r))(hp:p.ok)(hk:op = .shl\/op = .shr\/yk=k)(P:Program)(t:TypeId)(w:World) :
  (binOp op t (.int k a) (.int yk b)).run P w = .ok (.int k r) w/\k.min<=r/\r<=k.max:=by
 cases op<;>simp only[arith] at h<;>try cases h
 case add =>
  have hk:yk=k:=by simpa using hk
  subst hk;split at h<;>simp only[b5E,b5H] at h<;>obtain⟨rfl,rfl⟩:=h
  .exact⟨by simp[binOp_add,Op.intArith],SD _⟩
  .have:=dV hp;exact⟨by simp[binOp_add,Op.intArith,tc this],this⟩
 case sub =>
  have hk:yk=k:=by simpa using hk
  subst hk;have:=dV hp;exact⟨by simp[binOp_sub,Op.intArith,tc this],this⟩
 case mul =>
  have hk:yk=k:=by simpa using hk
  subst hk;split at h<;>simp only[b5E,b5H] at h<;>obtain⟨rfl,rfl⟩:=h
  .exact⟨by simp[binOp_mul,Op.intArith],SD _⟩
  .have:=dV hp;exact⟨by simp[binOp_mul,Op.intArith,tc this],this⟩
 case quo =>
  have hk:yk=k:=by simpa using hk
  subst hk;have:=dV hp.2;exact⟨by simp[binOp_quo,Op.intDiv,hp.1,tc this],this⟩
 case rem =>
  have hk:yk=k:=by simpa using hk
  subst hk;have:=dV hp.2;exact⟨by simp[binOp_rem,Op.intDiv,hp.1],this⟩
 case and =>
  have hk:yk=k:=by simpa using hk
  subst hk;obtain⟨h1,h2⟩:=a2A hp.1 hp.2.1 (dV hp.2.2.1) (dV hp.2.2.2);exact⟨by simp only[binOp_and,Op.intBits,b6q,h1],h2⟩
 case shl =>
  have XR:b<(k.bits:Int):=hp.2.1;have:=dV hp.2.2;have hb:min b.toNat k.bits=b.toNat:=by omega
  exact⟨by simp[binOp_shl,Op.shift,Int.not_lt.2 hp.1,hb,tc this],this⟩
 case shr =>
  have XR:b<(k.bits:Int):=hp.2.1;have:=dV hp.2.2;have hb:min b.toNat k.bits=b.toNat:=by omega
  exact⟨by simp[binOp_shr,Op.shift,Int.not_lt.2 hp.1,hb],this⟩
theorem WV(k:IntKind)(n:Int):k.min<=k.wrap n/\k.wrap n<=k.max:=by
 cases k<;>simp[IntKind.min,IntKind.max,IntKind.signed,IntKind.bits,IntKind.wrap]<;>omega
theorem W5{wr:Bool}{op:BinOp}{k yk:IntKind}{a b r:Int}{p:Vc}(h:Va wr op k a b=some (p,r))(hp:p.ok)(hk:op = .shl\/op = .shr\/yk=k)(P:Program)(t:TypeId)(w:World) :
  (binOp op t (.int k a) (.int yk b)).run P w = .ok (.int k r) w/\k.min<=r/\r<=k.max:=by
 unfold Va at h;split at h
 .split at h
  .have hk:yk=k:=by simpa using hk
   subst hk;simp only[b5E,b5H] at h;obtain⟨rfl,rfl⟩:=h;exact⟨by simp[binOp_add,Op.intArith],WV _ _⟩
  .have hk:yk=k:=by simpa using hk
   subst hk;simp only[b5E,b5H] at h;obtain⟨rfl,rfl⟩:=h;exact⟨by simp[binOp_sub,Op.intArith],WV _ _⟩
  .have hk:yk=k:=by simpa using hk
   subst hk;simp only[b5E,b5H] at h;obtain⟨rfl,rfl⟩:=h;exact⟨by simp[binOp_mul,Op.intArith],WV _ _⟩
  .exact P8 h hp hk P t w
 .exact P8 h hp hk P t w
theorem a3Y{op:BinOp}{k:IntKind}{a b:Int}{r:Bool}(h:cmp op a b=some r)(P:Program)(t:TypeId)(w:World) :
  (binOp op t (.int k a) (.int k b)).run P w = .ok (.bool r) w:=by
 cases op<;>simp only[cmp,b5E] at h<;>try cases h
 .simp only[binOp_eql,b6q];congr 2
 .simp only[binOp_neq,b6q];congr 2
 .simp[binOp_lss]
 .simp[binOp_leq]
 .simp[binOp_gtr]
 .simp[binOp_geq]
section
variable {c:Ctx} {G:Gh} {lk:Nat->Option av} {w:World}
theorem TF(a b:ByteArray):(a.toList == b.toList)=decide (a.data.toList=b.data.toList):=by
 rw[b9W,b9W];rw[b8H];simp
theorem Zv(hE:bl c.P c.E){op:BinOp}{T:TypeId}{u v r:AV}{x y:Value}{p:Vc}{wr:Bool}(ox oy:Operand)
  (h:Zu (match ai c.E.ty T with
   | some (.bool,_)=>true
   | _=>false) wr op u v=some (p,r)) (hp:p.ok) (hu:VR c G lk w u x) (hv:VR c G lk w v y) :
  ∃ z,(do eqGuard op T ox oy x y;binOp op T x y:Sem Value).run c.P w = .ok z w/\VR c G lk w r z:=by
 unfold Zu at h;split at h
 .rename_i k a k' b;obtain⟨h1,h2⟩:=hu;obtain⟨h3,h4⟩:=hv;simp only[b5J,b5W] at h1 h3;subst h1 h3;simp only[eqGuard_at_int,b6p,b6q,b6i];split at h
  .rename_i p' r' har;have key:(op = .shl\/op = .shr\/k'=k)->p'.ok->∃ z,(binOp op T (.int k a) (.int k' b)).run c.P w = .ok z w/\VR c G lk w (.aO ⟨.int k,r'⟩) z:=λ hk KK=>by
    obtain⟨h5,h6⟩:=W5 har KK hk c.P T w;exact⟨_,h5,rfl,h6⟩
   split at h
   .simp only[b5E,b5H] at h;obtain⟨rfl,rfl⟩:=h;exact key (.inl rfl) hp
   .simp only[b5E,b5H] at h;obtain⟨rfl,rfl⟩:=h;exact key (.inr (.inl rfl)) hp
   .split at h
    .rename_i hk;simp only[b5E,b5H] at h;obtain⟨rfl,rfl⟩:=h;exact key (.inr (.inr (b6n hk).symm)) hp
    .cases h
  .split at h
   .rename_i hk;have hk:=b6n hk;subst hk;split at h
    .rename_i cc hc;simp only[b5E,b5H] at h;obtain⟨rfl,rfl⟩:=h;exact⟨_,a3Y hc c.P T w,rfl⟩
    .cases h
   .cases h
 .rename_i a b;have hu:[x]=[.bool a]:=hu;have hv:[y]=[.bool b]:=hv;simp only[b5J,b5W] at hu hv;subst hu hv;split at h
  .rename_i hT;split at hT
   .rename_i r' hl;have hb:=hE.bool hl;split at h
    .simp only[b5E,b5H] at h;obtain⟨rfl,rfl⟩:=h;exact⟨.bool (a == b),by simp[binOp,run_equal_bool w T a b hb,eqGuard_at_bool],rfl⟩
    .simp only[b5E,b5H] at h;obtain⟨rfl,rfl⟩:=h;exact⟨.bool !(a == b),by simp[binOp,run_equal_bool w T a b hb,eqGuard_at_bool],rfl⟩
    .cases h
   .cases hT
  .cases h
 .rename_i a b;obtain⟨s,h1,h2,h3⟩:=hu;obtain⟨s',h4,h5,h6⟩:=hv;simp only[b5J,b5W] at h1 h4;subst h1 h4;subst h2 h5;split at h
  .simp only[b5E,b5H] at h;obtain⟨rfl,rfl⟩:=h;exact⟨.bool (s.toList == s'.toList),by simp[binOp,Op.stringOp,b9j],by rw[TF];rfl⟩
  .simp only[b5E,b5H] at h;obtain⟨rfl,rfl⟩:=h;exact⟨.bool (!(s.toList == s'.toList)),by simp[binOp,Op.stringOp,b9j],by rw[TF];rfl⟩
  .simp only[b5E,b5H] at h;obtain⟨rfl,rfl⟩:=h;have cr:s.size+s'.size<=140737488355328:=by
    have:=hp;simp only[b6M] at this;exact this
   have hs2:(s++s').size=s.size+s'.size:=ByteArray.size_append;refine⟨.string (s++s'),?_,s++s',rfl,by simp,by rw[hs2];exact cr⟩;have:¬ (((s.size+s'.size:Nat):Int)>IntKind.i64.max):=by rw[IntKind.max_i64];omega
   simp only[b9j,b6p,b6q,b6i,binOp,Op.stringOp,b5I this]
  .cases h
 .cases h
theorem CF(hE:bl c.P c.E){T:TypeId}{n:aH}{b e:Nat}(h:ai c.E.ty T=some (.st n,b,e))(ha:n.arr=false){bk o:Nat}{i:Nat}(hi:i<n.c9.length)(w:World) :
  (Instr.fieldAt T (.pointer (some ⟨bk,o,none⟩)) i).run c.P w = .ok (.pointer (some ⟨bk,o+n.dL i,none⟩)) w:=by
 obtain⟨fs,h1,h2,h3⟩:=hE.st h ha;have hf:fs[i]?=some fs[i]:=b6O (by omega);obtain⟨t,b',e',h4,h5,h6⟩:=h3 i _ hf;have cr:=hE.sizeOf h5 w;have h0:t.size≠0:=Nat.pos_iff_ne_zero.1 t.size_pos;simp[Instr.fieldAt,b6F h1,hf,Instr.sureAddr,fieldPlace,cr,h0,b8i,h6]
theorem a0I(hE:bl c.P c.E){T:TypeId}{n:aH}{b e:Nat}(h:ai c.E.ty T=some (.st n,b,e))(ha:n.arr=false){l:List Value}{i:Nat}{t:Ty}(hi:n.c9[i]?=some t)
  (hl:n.dL i+t.size<=l.length) (w:World) :
  (Instr.field T (.agg l.toArray) i).run c.P w = .ok (A2 t ((l.drop (n.dL i)).take t.size)) w:=by
 obtain⟨fs,h1,h2,h3⟩:=hE.st h ha;have bp:i<fs.size:=by have:=(b6o.1 hi).1;omega
 have hf:fs[i]?=some fs[i]:=b6O bp;obtain⟨t',b',e',h4,h5,h6⟩:=h3 i _ hf;rw[hi] at h4;simp only[b5E] at h4;subst h4;have cr:=hE.sizeOf h5 w;have hag:=hE.isAgg h5 w;simp only[Instr.field,b6p,b6F h1,b6i,hf,asAgg,part,hag,b6q];cases eN:t.agg with
 | true =>
  simp only[b7D,b6p,cr,b6i,b6q,h6];cases t<;>first|(cases eN;done)|skip
  simp only[A2,b9I,b9H,b5W];apply b9o;simp[List.take_drop]
 | false =>
  have h1:=Ty.fi eN;simp only[b5O,b8j,h6];have hx:l.toArray[n.dL i]?=some (l[n.dL i]'(by omega)):=by rw[b9O];exact b6e (by omega)
  rw[hx];simp only[b6q,h1];have he:(l.drop (n.dL i)).take 1=[l[n.dL i]'(by omega)]:=by
   rw[b7B (by omega),b8F,b7K]
  rw[he];cases t<;>first|rfl|cases eN
theorem R5(hE:bl c.P c.E){T:TypeId}{n:aH}{b e:Nat}(h:ai c.E.ty T=some (.st n,b,e))(ha:n.arr=true){bk o:Nat}{k:IntKind}{i:Nat}(hi:i<n.c9.length)(w:World) :
  (Instr.indexAt T (.pointer (some ⟨bk,o,none⟩)) (.int k (Int.ofNat i))).run c.P w = .ok (.pointer (some ⟨bk,o+n.dL i,none⟩)) w:=by
 obtain⟨e',h1,⟨b',e2,h2⟩,h3⟩:=hE.Vb h ha (b6e hi);simp[Instr.indexAt,b6F h1,asIntOf,Instr.sureAddr,hi,hE.sizeOf h2 w,b8i,h3]
theorem a5L(hE:bl c.P c.E){T:TypeId}{n:aH}{b e:Nat}(h:ai c.E.ty T=some (.st n,b,e))(ha:n.arr=true){l:List Value}{k:IntKind}{i:Nat}{t:Ty}(hi:n.c9[i]?=some t)
  (hl:n.dL i+t.size<=l.length) (w:World) :
  (Instr.index T (.agg l.toArray) (.int k (Int.ofNat i))).run c.P w = .ok (A2 t ((l.drop (n.dL i)).take t.size)) w:=by
 obtain⟨e',h1,⟨b',e2,h2⟩,h3⟩:=hE.Vb h ha hi;have bp:=(b6o.1 hi).1;have cr:=hE.sizeOf h2 w;have hag:=hE.isAgg h2 w;have fv:(0:Int)<=Int.ofNat i/\Int.ofNat i<((n.c9.length:Nat):Int):=⟨c0b i,Int.ofNat_lt.2 bp⟩;simp only[Instr.index,b6p,asIntOf,b6q,b6i,b6F h1,b5Q fv,cr,part,hag,show (Int.ofNat i).toNat=i from rfl,<-h3];cases eN:t.agg with
 | true =>
  simp only[b7D,b6p,cr,b6i,b6q];cases t<;>first|(cases eN;done)|skip
  simp only[A2,b9I,b9H,b5W];apply b9o;simp[List.take_drop]
 | false =>
  have h1:=Ty.fi eN;simp only[b5O,b8j];have hx:l.toArray[n.dL i]?=some (l[n.dL i]'(by omega)):=by rw[b9O];exact b6e (by omega)
  rw[hx];simp only[b6q,h1];have he:(l.drop (n.dL i)).take 1=[l[n.dL i]'(by omega)]:=by
   rw[b7B (by omega),b8F,b7K]
  rw[he];cases t<;>first|rfl|cases eN
end
section
variable {c:Ctx} {G:Gh} {lk:Nat->Option av} {w:World}
theorem a1c(k:IntKind):k.min<=0/\0<=k.max:=by cases k<;>decide
theorem F9{τ:Ty}{v:Value}(h:xu τ v=true):C1 c G lk w (zeroCell τ) v:=by
 unfold xu at h;split at h
 .simp only[b5M] at h;have h1:=b6n h.1;have h2:=b6n h.2;subst h1 h2;exact⟨rfl,rfl,a1c _⟩
 .rename_i b;cases b
  .exact⟨rfl,rfl⟩
  .cases h
 .rename_i s;exact⟨rfl,s,rfl,List.isEmpty_iff.1 h,by simp[List.isEmpty_iff] at h;simp[ByteArray.size,h]⟩
 .rfl
 .exact⟨rfl,_,rfl⟩
 .cases h
theorem ib{τ:Ty}{z:Value}(h:yK τ z=true):aM (C1 c G lk w) (zeroCells τ) z.cells.toList:=by
 have key:∀ (ts:List Ty) (vs:List Value),LN ts vs=true->aM (C1 c G lk w) (ts.map zeroCell) vs:=by
  intro ts;induction ts with
  | nil=>intro vs h;cases vs<;>first|trivial|cases h
  | cons t ts ih =>
   intro vs h;cases vs with
   | nil=>cases h
   | cons v vs =>
    simp only[LN,b5M] at h;exact⟨F9 h.1,ih vs h.2⟩
 have one:∀ v,xu τ v=true->v.cells = #[v]:=by
  intro v hv;unfold xu at hv;split at hv<;>first|rfl|cases hv
 unfold yK at h;split at h
 .rename_i s cs;exact key _ _ h
 .cases h
 .rename_i aU v h1 h2;rw[one _ h];have:zeroCells τ=[zeroCell τ]:=by
   cases τ<;>first|rfl|(rename_i s;cases v<;>first|exact absurd rfl (h2 s rfl)|cases h)
  rw[this];exact⟨F9 h,af⟩
theorem LO{S:Nat->Prop}{τ:Ty}{z:Value}(h:yK τ z=true):Rd w S (τ.aL τ.zero) z.cells.toList:=by
 have h1:=ib (c:=⟨{ funcs := #[],goVersion := "",platform := "",initOrder := "",godebug := "",types := #[],rt:=default,cutTypes := #[],globals := #[],inits := #[],main:=0 },{ ty:=[],Ws:=[],Mf:=λ _ _=>none },w,λ _=>True,S,λ _=>none,λ _=>False,λ _=>none⟩) (G:=⟨S,λ _=>undef,λ _=>[]⟩) (lk:=λ _=>none) (w:=w) h;have cell:∀ t x,C1 ⟨{ funcs := #[],goVersion := "",platform := "",initOrder := "",godebug := "",types := #[],rt:=default,cutTypes := #[],globals := #[],inits := #[],main:=0 },{ ty:=[],Ws:=[],Mf:=λ _ _=>none },w,λ _=>True,S,λ _=>none,λ _=>False,λ _=>none⟩ ⟨S,λ _=>undef,λ _=>[]⟩ (λ _=>none) w (zeroCell t) x->Rd w S (t.aL t.zero) [x]:=by
  intro t x hx;cases t with
  | slice t'=>exact Pq (τ := .slice t') (v := .nil) rfl hx
  | _=>exact hx.2
 cases τ with
 | st s =>
  simp only[zeroCells] at h1;show Rd w S (s.aL s.zero) _;rw[aH.bT];have hz:(s.cells s.zero).map TV.aL=s.oj.map λ t=>t.aL t.zero:=by cases s<;>rfl
  rw[hz];have h2:=aM.of_map _ h1;have:∀ (ts:List Ty) (vs:List Value),aM (λ t x=>Rd w S (t.aL t.zero) [x]) ts vs->cP w S (ts.map λ t=>t.aL t.zero) vs:=by
   intro ts;induction ts with
   | nil=>intro vs h;cases vs<;>first|rfl|cases h
   | cons t ts ih =>
    intro vs h;cases vs with
    | nil=>cases h
    | cons v vs=>exact⟨v,vs,rfl,h.1,ih vs h.2⟩
  exact this _ _ (h2.imp λ t x _ hx=>cell t x hx)
 | _ =>
  simp only[zeroCells] at h1;match hc:z.cells.toList,h1 with
  | [x],h1=>exact cell _ _ h1.1
theorem QK(off:Nat):∀ (xs:List Value) (k:Nat) (l:List Value),off+k+xs.length<=l.length ->
  (xs.zipIdx k).foldl (λ cs p=>cs.setIfInBounds (off+p.2) p.1) l.toArray=(l.take (off+k)++xs++l.drop (off+k+xs.length)).toArray
 | [],k,l,_=>by simp
 | x::xs,k,l,h=>by
  simp only[List.length_cons] at h;simp only[List.zipIdx_cons,List.foldl_cons];have:=QK off xs (k+1) (l.set (off+k) x) (by simp;omega);rw[List.setIfInBounds_toArray,this];congr 1;have e:=list_seg_step l (off+k) x xs (by omega);simpa [Nat.add_assoc] using e
theorem Ml(place:Nat->Option (Nat×Nat))(i off size:Nat)(v:Value)(rest:List (Nat×Value))(l:List Value)(hp:place i=some (off,size))(hs:v.cells.size=size)(hl:off+size<=l.length) :
  Instr.fill place l.toArray ((i,v)::rest)=Instr.fill place (l.take off++v.cells.toList++l.drop (off+size)).toArray rest:=by
 have hn:(decide (v.cells.size≠size)||decide (off+v.cells.size>l.toArray.size))=false:=by
  simp[hs];omega
 simp only[Instr.fill,hp,hn,b5O,b8j];congr 1;rw[<-Array.foldl_toList,Array.toList_zipIdx];have:=QK off v.cells.toList 0 l (by simp[hs];omega);simp only[b7W,b6M,hs] at this;exact this
theorem zJ{E:Env}{s:aH}{place:Nat->Option (Nat×Nat)}(hp:∀ i t,s.c9[i]?=some t->place i=some (s.dL i,t.size)) :
  ∀ {ps:List (Nat×AV)} {vs:List (Nat×Value)} {cs dw:List AV} {l:List Value},partsOf E s cs ps=some dw->aM (λ p q=>p.1=q.1/\VR c G lk w p.2 q.2) ps vs->aM (C1 c G lk w) cs l ->
   ∃ l',Instr.fill place l.toArray vs=some l'.toArray/\aM (C1 c G lk w) dw l'
 | [],[],cs,dw,l,h,_,hl=>by
  simp only[partsOf,b5E] at h;subst h;exact⟨l,rfl,hl⟩
 | (i,v)::ps,(j,x)::vs,cs,dw,l,h,hv,hl=>by
  obtain⟨⟨tM,hx⟩,Q6⟩:=hv;have tM:i=j:=tM;subst tM;simp only[partsOf] at h;split at h
  .rename_i τ eN;split at h
   .rename_i new pZ;split at h
    .rename_i cs1 AJ;obtain⟨h1,_,h3⟩:=yS pZ hx;have hlen:=h1.length;have hll:=hl.length;unfold putCells at AJ;split at AJ
     .rename_i hb;have hb:=b6R hb;simp only[b5E] at AJ;subst AJ;have cr:x.cells.size=τ.size:=by rw[<-h3,hlen];simp
      have EW:s.dL i+τ.size<=l.length:=by omega
      rw[Ml place i _ _ x vs l (hp i τ eN) cr EW];refine zJ hp h Q6 ?_;rw[b6v,<-h3];exact (hl.take _).append (h1.append (hl.drop _))
     .cases AJ
    .cases h
   .cases h
  .cases h
 | [],_::_,_,_,_,_,hv,_=>hv.elim
 | _::_,[],_,_,_,_,hv,_=>hv.elim
theorem Hu{τ:Ty}{place:Nat->Option (Nat×Nat)}(hp:∀ i,place i=some (i * τ.size,τ.size)) :
  ∀ {ps:List (Nat×AV)} {vs:List (Nat×Value)} {n:Nat} {xs:List τ.den} {l:List Value},rX τ n ps=some xs->aM (λ p q=>p.1=q.1/\VR c G lk w p.2 q.2) ps vs ->
   (n+ps.length) * τ.size=l.length->∃ r,Instr.fill place l.toArray vs=some (l.take (n * τ.size)++r).toArray/\dP w G.S (xs.map τ.aL) r
 | [],[],n,xs,l,h,_,hl=>by
  simp only[rX,b5E] at h;subst h;refine⟨[],?_,rfl⟩;simp only[b6d,b7W] at hl;rw[hl,b8P,b6K];rfl
 | (i,v)::ps,(j,x)::vs,n,xs,l,h,hv,hl=>by
  obtain⟨⟨tM,hx⟩,Q6⟩:=hv;have tM:i=j:=tM;subst tM;simp only[rX] at h;split at h
  .rename_i fv;have fv:=b5G fv;subst fv;split at h
   .rename_i y hy;split at h
    .rename_i ys MC;simp only[b5E] at h;subst h;have hr:=(zY hy hx).cells;have cr:x.cells.size=τ.size:=by
      have:=Rd.length _ hr;rw[show TV.aL ⟨τ,y⟩=τ.aL y from rfl,Ty.cA] at this;simpa using this
     simp only[b5S] at hl;have E0:=τ.size_pos;have e1:(i+(ps.length+1)) * τ.size=i * τ.size+τ.size+ps.length * τ.size:=by
      rw[b6V,b6V];omega
     rw[Ml place i _ _ x vs l (hp i) cr (by omega)];obtain⟨r,h1,h2⟩:=Hu hp (l:=l.take (i * τ.size)++x.cells.toList++l.drop (i * τ.size+τ.size)) MC Q6 (by
      simp[cr];rw[show (i+1+ps.length) * τ.size=i * τ.size+τ.size+ps.length * τ.size by rw[b6V,b6V];omega];omega)
     refine⟨x.cells.toList++r,?_,_,_,rfl,hr,h2⟩;rw[h1];congr 2;rw[show (i+1) * τ.size=i * τ.size+τ.size by rw[b6V];omega];have ht:(l.take (i * τ.size)++x.cells.toList).length=i * τ.size+τ.size:=by simp[cr];omega
     rw[<-ht,b8a,b6v]
    .cases h
   .cases h
  .cases h
 | [],_::_,_,_,_,_,hv,_=>hv.elim
 | _::_,[],_,_,_,_,hv,_=>hv.elim
theorem C5{τ:Ty}:∀ {ps:List (Nat×AV)} {n:Nat} {xs:List τ.den},rX τ n ps=some xs->xs.length=ps.length
 | [],n,xs,h=>by
  simp only[rX,b5E] at h;subst h;rfl
 | (i,v)::ps,n,xs,h=>by
  simp only[rX] at h;split at h
  .split at h
   .split at h
    .rename_i ys MC;simp only[b5E] at h;subst h;simp[C5 MC]
    .cases h
   .cases h
  .cases h
theorem Dr(z:Array Value)(k:Nat):(madeCells z ((k+1) * z.size)).toList=(madeCells z (k * z.size)).toList++z.toList:=by
 apply b9i;intro j;have e:(k+1) * z.size=k * z.size+z.size:=by rw[b6V];omega
 by_cases h1:j<k * z.size
 .rw[b6X (by simp[madeCells];exact h1)];have h2:j<(k+1) * z.size:=by omega
  simp[madeCells,h1,h2]
 .by_cases h2:j<(k+1) * z.size
  .rw[b7Q (by simp[madeCells];omega)];have h3:j - k * z.size<z.size:=by omega
   have hm:j % z.size=j - k * z.size:=by
    have h4:(j - k * z.size+z.size * k) % z.size=j - k * z.size:=by rw[Nat.add_mul_mod_self_left,Nat.mod_eq_of_lt h3]
    rwa [Nat.mul_comm z.size k,Nat.sub_add_cancel (Nat.le_of_not_lt h1)] at h4
   simp[madeCells,h2,hm,h3]
  .rw[b7Q (by simp[madeCells];omega)];have h3:¬ j - k * z.size<z.size:=by omega
   simp[madeCells,h2];omega
theorem HK{S:Nat->Prop}{d:D}{z:Array Value}(h:Rd w S d z.toList):∀ k:Nat,dP w S (List.replicate k d) (madeCells z (k * z.size)).toList
 | 0=>by simp[madeCells,dP,Array.range_zero']
 | k+1=>by
  rw[Dr,b8A];exact dP.append _ _ (HK h k) ⟨z.toList,[],by simp,h,rfl⟩
theorem Ds(z:Array Value)(n m:Nat)(h:n<=m):(madeCells z m).toList.take n=(madeCells z n).toList:=by
 apply b9i;intro j;rw[b7h];by_cases hj:j<n
 .have:j<m:=by omega
  simp[madeCells,hj,this]
 .simp[madeCells,hj]
end
def LV(d:Option Nat)(v:AV):av->Prop
 | .box _=>∃ i,d=some i/\v = .ptr i 0
 | .row .. => ∃ i,d=some i/\v = .row i
 | .aC .. => False
 | .map .. => ∃ i,d=some i/\v = .mp i
def a1f(c:Ctx)(G:Gh)(lk:Nat->Option av)(w:World)(x:Value):av->Prop
 | .box cs=>∃ b l t,x = .pointer (some ⟨b,0,none⟩)/\w.heap[b]?=some (.cells l.toArray t (0,0))/\aM (C1 c G lk w) cs l
 | .row e τ xs=>∃ l,w.ownsRow 0 e τ.size x xs.length l/\dP w G.S (xs.map τ.aL) l/\xs.length<=140737488355328
 | .aC .. => False
 | .map m=>∃ b es clock,x = .map (some b)/\w.heap[b]?=some (.map es clock)/\xM m es
def xL(c:Ctx)(G:Gh)(sl:Nat->AV)(n:Nat)(lk:Nat->Option av)(d:Option Nat)(a:Act)(w:World)(v:AV)(ob:Option av)(a':Act)(w':World):Prop :=
 ∃ x S',a'=a.put d x/\bf c ⟨S',G.η,G.φ⟩ sl n lk a w' /\
  match ob with
  | none=>VR c ⟨S',G.η,G.φ⟩ lk w' v x
  | some o=>LV d v o/\a1f c ⟨S',G.η,G.φ⟩ lk w' x o/\∀ b,dD x=some b->w.heap.size<=b/\b<w'.heap.size/\¬ S' b
section
variable {c:Ctx} {G:Gh} {sl:Nat->AV} {n:Nat} {lk:Nat->Option av} {a:Act} {w w':World}
theorem bf.grow(h:bf c G sl n lk a w)(hk:bX (λ _=>False) w w'){S':Nat->Prop}(hS:∀ b,b<w.heap.size->(S' b↔G.S b))(hLt:∀ b,S' b->b<w'.heap.size):bf c ⟨S',G.η,G.φ⟩ sl n lk a w':=by
 refine h.world ⟨hk.os,hk.tape,hk.output,hk.size,λ b hb _=>hk.block b hb (λ h=>h)⟩ (λ b hb=>(hS b (h.dx b hb)).2 hb) hS (λ b hb=>?_) hLt (λ b hb=>?_) (λ id o b ho hb=>?_) (λ id τ xs b ht hb=>hk.block b (h.aP.pl id τ xs b ht hb).2.2.1 (λ h=>h))
 .have h1:=h.sX b hb;exact (hS b (h.dx b h1)).2 h1
 .refine hk.block b ?_ (λ h=>h);rcases hb with hb|hb
  .exact h.dx b hb
  .exact b6a hb.1 h.keep.size
 .exact hk.block b (h.place id o b ho hb).2.2 (λ h=>h)
theorem fw(w:World)(o:Obj):bX (λ _=>False) w (w.alloc o):=⟨rfl,rfl,rfl,by simp,λ b hb _=>RowKit.Below.heap_alloc w o b hb⟩
theorem bf.alloc(h:bf c G sl n lk a w)(o:Obj):bf c G sl n lk a (w.alloc o) :=
 h.grow (S':=G.S) (fw w o) (λ _ _=>b7k) (λ b hb=>by have:=h.dx b hb;simp;omega)
theorem bf.WK(h:bf c G sl n lk a w)(hk:bX (λ _=>False) w w')(b:Nat)(hb:St c G.S b):w'.heap[b]?=w.heap[b]?:=by
 refine hk.block b ?_ (λ h=>h);rcases hb with hb|hb
 .exact h.dx b hb
 .exact b6a hb.1 h.keep.size
theorem bf.b0L(h:bf c G sl n lk a w)(hk:bX (λ _=>False) w w'){v:AV}{x:Value}(hv:C1 c G lk w v x):C1 c G lk w' v x :=
 hv.mono (λ _ _=>⟨eC.refl _,rfl⟩) (λ _ h=>h) (h.WK hk)
theorem bZ{o:Oper}{v:AV}{x:Value}{Q:Exit->Act->World->Prop}(hI:bf c G sl n lk a w)(hr:(execOp a.eval o).run c.P w = .ok (.value x) w)(hv:VR c G lk w v x) :
  o.wp c.P a w (xL c G sl n lk o.dst a w v none) Q:=by
 unfold Oper.wp;rw[hr];exact⟨x,G.S,rfl,hI,hv⟩
theorem uY{o:Oper}{v:AV}{ob:av}{x:Value}{Q:Exit->Act->World->Prop}(hI0:bf c G sl n lk a w)(hr:(execOp a.eval o).run c.P w = .ok (.value x) w')(hI:bf c G sl n lk a w')
  (hL:LV o.dst v ob) (hN:a1f c G lk w' x ob) (hb:∀ b,dD x=some b->w.heap.size<=b/\b<w'.heap.size) :
  o.wp c.P a w (xL c G sl n lk o.dst a w v (some ob)) Q:=by
 unfold Oper.wp;rw[hr];exact⟨x,G.S,rfl,hI,hL,hN,λ b h=>⟨(hb b h).1,(hb b h).2,λ hs=>by have:=hI0.dx b hs;have:=(hb b h).1;omega⟩⟩
theorem Uu{e:TypeId}{τ:Ty}{xs:List τ.den}{x:Value}{l:List Value}{S S':Nat->Prop}(h1:w.ownsRow 0 e τ.size x xs.length l)(h2:dP w S (xs.map τ.aL) l)(h3:xs.length<=140737488355328)(hS:∀ b,S b->S' b)(hb:∀ b,dD x=some b->S' b) :
  Rd w S' (Ty.aL (.slice τ) xs) [x]:=by
 rcases h1.2 with ⟨hv,hn⟩|⟨g,cap,cur,hv,_,hh,SZ,Z5,jt,htk⟩
 .have hx:xs=[]:=b6S hn;subst hx;exact⟨none,0,by simp[hv],by simp,by simp[maxLen],by simp, .inl rfl⟩
 .refine⟨some ⟨g,0,none⟩,cap,by simp[hv],by simpa using SZ,Z5,by simpa using h3,?_⟩;refine .inr ⟨g,0,rfl,hb g (by rw[hv];rfl),?_⟩;refine dP.row _ g 0 (h2.keep hS (λ _ _=>rfl)) λ j v hj=>?_;have:=h1.cells (g:=g) (by rw[hv];rfl) j v hj;rw[Addr.add_lit] at this;exact this
theorem a2G{o:Oper}{τ:Ty}{xs:List τ.den}{e:TypeId}{x:Value}{l:List Value}{Q:Exit->Act->World->Prop}(hI:bf c G sl n lk a w)(hr:(execOp a.eval o).run c.P w = .ok (.value x) w')(hk:bX (λ _=>False) w w')
  (h1:w'.ownsRow 0 e τ.size x xs.length l) (h2:dP w' G.S (xs.map τ.aL) l) (h3:xs.length<=140737488355328) (hb:∀ b,dD x=some b->w.heap.size<=b/\b<w'.heap.size) :
  o.wp c.P a w (xL c G sl n lk o.dst a w (.aO ⟨.slice τ,xs⟩) none) Q:=by
 unfold Oper.wp;rw[hr];refine⟨x,λ b=>G.S b\/dD x=some b,rfl,hI.grow hk (λ b cw=>⟨λ q=>q.elim id λ q=>absurd (hb b q).1 (by omega), .inl⟩) λ b q=>q.elim (λ q=>Nat.lt_of_lt_of_le (hI.dx b q) hk.size) λ q=>(hb b q).2,?_⟩;exact Uu h1 h2 h3 (λ _ q => .inl q) (λ _ q => .inr q)
theorem NY{v:TV}(h:v.flat=true){S S':Nat->Prop}{w w':World}{cs:List Value}(hr:Rd w S v.aL cs):Rd w' S' v.aL cs:=by
 have one:∀ u:TV,u.τ.agg=false->(match u.τ with | .slice _=>false | .mv _=>false|_=>true)=true->∀ cs,Rd w S u.aL cs->Rd w' S' u.aL cs:=by
  intro u h1 h2 cs h3;obtain⟨τ,y⟩:=u;cases τ<;>first|exact h3|(cases h1;done)|(simp at h2;done)
 obtain⟨τ,y⟩:=v;cases τ with
 | st s =>
  rw[show TV.aL ⟨.st s,y⟩=s.aL y from rfl,aH.bT] at hr ⊢;refine cP.vI.2 ((cP.vI.1 hr).imp λ u x hu hx=>?_);refine one u ?_ (b6y.1 h u hu) _ hx;have:=aH.oA s y u hu;obtain⟨aU,z⟩:=u;cases aU with
  | st s'=>simp[TV.aL,Ty.aL,aH.bT,D.leaf] at this
  | _=>rfl
 | slice t=>simp[TV.flat,TV.cells] at h
 | mv t=>simp[TV.flat,TV.cells] at h
 | ptr=>exact hr
 | int k=>exact hr
 | bool=>exact hr
 | str=>exact hr
theorem QI{v:TV}(h:v.flat=true){S S':Nat->Prop}{w w':World}{x:Value}(hr:dE w S v x):dE w' S' v x:=by
 obtain⟨τ,y⟩:=v;cases τ with
 | st s =>
  obtain⟨cs,h1,h2⟩:=hr;exact⟨cs,h1,NY (v:=⟨.st s,y⟩) h h2⟩
 | _=>exact NY (v:=⟨_,y⟩) (w:=w) (w':=w') (S:=S) (S':=S') h hr
theorem Cz{lk':Nat->Option av}(bS:∀ id o,lk' id=some o->lk id=some o):∀ id o,rD lk' id=some o->lk id=some o:=by
 intro id o h;unfold rD at h;split at h
 .rename_i cs hc;simp only[b5E] at h;subst h;exact bS _ _ hc
 .cases h
theorem CA{lk':Nat->Option av}:∀ id e τ xs,rD lk' id≠some (.row e τ xs):=by
 intro id e τ xs h;unfold rD at h;split at h<;>simp at h
theorem yC{lk':Nat->Option av}:∀ id τ xs,rD lk' id≠some (.aC τ xs):=by
 intro id τ xs h;unfold rD at h;split at h<;>simp at h
theorem a0n{τ:Ty}{cs:List Value}{x:τ.den}{S:Nat->Prop}(h:dE w S ⟨τ,x⟩ (A2 τ cs))(hl:cs.length=τ.size):Rd w S (τ.aL x) cs:=by
 cases τ with
 | st s =>
  obtain⟨dw,h1,h2⟩:=h;simp only[A2,Value.agg.injEq] at h1;have:cs=dw:=by have:=congrArg Array.toList h1;simpa using this
  subst this;exact h2
 | _ =>
  match cs,hl with
  | [v],_=>exact h
theorem CR.fO{v:AV}{x:Value}(h:CR c G lk w v x):VR c G lk w v x:=by
 cases v with
 | aO v=>exact h
 | agg cs=>exact h
 | any=>trivial
 | dY=>exact h
 | hY _=>exact h.elim
 | cO _ _=>exact h.elim
 | nil=>exact h
 | cT v=>exact h
 | ptr i o=>exact h
 | row i=>exact h
 | eA i k o=>exact h
 | fn f=>exact h
 | aC i=>exact h
 | sub i k o z=>exact h
 | eJ i k o z=>exact h
 | il v=>exact h
 | mp i=>exact h
theorem C1.Y4{v:AV}{x:Value}(h:C1 c G lk w v x):CR c G lk w v x:=by
 cases v with
 | aO v=>exact C1.fO (v := .aO v) h
 | agg cs=>exact h.elim
 | hY cs=>exact h.elim
 | cO f cs=>exact h.elim
 | _=>exact h
theorem CR.inv{v:AV}{x:Value}(h:CR c G lk w v x):(∃ u,v = .aO u/\dE w G.S u x)\/(∃ cs l,v = .agg cs/\x = .agg l.toArray/\aM (C1 c G lk w) cs l)\/C1 c G lk w v x:=by
 cases v with
 | aO v=>exact .inl ⟨v,rfl,h⟩
 | agg cs =>
  obtain⟨l,h1,h2⟩:=h;exact .inr (.inl ⟨cs,l,rfl,h1,h2⟩)
 | _=>exact .inr (.inr h)
theorem VR.Y4{v:AV}{x:Value}(h:VR c G lk w v x)(hc:v.a3W=true):CR c G lk w v x:=by
 cases v with
 | hY _=>cases hc
 | cO _ _=>cases hc
 | dY=>cases hc
 | il _=>cases hc
 | _=>exact h
theorem Ey{S:Nat->Prop}{lk':Nat->Option av}(hI:bf c G sl n lk a w)(bS:∀ id o,lk' id=some o->lk id=some o)
  (gV:∀ (τ:Ty) v x (y:τ.den),uP lk' τ v=some y->VR c G lk w v x->dE w S ⟨τ,y⟩ x) {τ:Ty} {v:AV} {x:Value} {y:τ.den} (hy:deref lk' τ v=some y) (hx:VR c G lk w v x):H2 w S (.ref ⟨τ,y⟩) x:=by
 unfold deref at hy;split at hy
 .rename_i u hu;obtain⟨b,o,cs,h1,h2,h3,h4⟩:=pt hI.aK bS hu hx;have h5:=a0n (gV _ _ _ _ hy h4) h3;have E0:=τ.size_pos;have hc0:=h2 0 (cs[0]'(by omega)) (b6e (by omega));exact⟨b,o,cs,h1,World.block_lt_of_cell? w _ hc0,h2,h5⟩
 .cases hy
theorem BR{S:Nat->Prop}{lk':Nat->Option av}(hI:bf c G sl n lk a w)(bS:∀ id o,lk' id=some o->lk id=some o)
  (gV:∀ (τ:Ty) v x (y:τ.den),uP lk' τ v=some y->VR c G lk w v x->dE w S ⟨τ,y⟩ x) :
  ∀ {ks:List (Bool×Ty)} {vs:List AV} {Z9:List Arg} {xs:List Value},oX lk' ks vs=some Z9->aM (CR c G lk w) vs xs->aM (H2 w S) Z9 xs
 | [],[],Z9,xs,h,hv=>by
  simp only[oX,b5E] at h;subst h;match xs,hv with
  | [],_=>trivial
 | (true,τ)::ks,v::vs,Z9,xs,h,hv=>by
  simp only[oX] at h;split at h
  .rename_i y hy;split at h
   .rename_i r hr;simp only[b5E] at h;subst h;match xs,hv with
    | x::xs,hv=>exact⟨Ey hI bS gV hy hv.1.fO,BR hI bS gV hr hv.2⟩
   .cases h
  .cases h
 | (false,τ)::ks,v::vs,Z9,xs,h,hv=>by
  simp only[oX] at h;split at h
  .rename_i y hy;split at h
   .rename_i r hr;simp only[b5E] at h;subst h;match xs,hv with
    | x::xs,hv=>exact⟨gV _ _ _ _ hy hv.1.fO,BR hI bS gV hr hv.2⟩
   .cases h
  .cases h
 | [],_::_,_,_,h,_=>by cases h
 | (true,_)::_,[],_,_,h,_=>by cases h
 | (false,_)::_,[],_,_,h,_=>by cases h
theorem vO(hE:bl c.P c.E){f:FuncId}{ew:List Arg}:∀ (ps:List Ty) (r:Ty) (acc:List Arg),Bt c.P f ew ps r (Qm c.E f ew ps r acc) acc
 | [],r,acc=>by
  show (Qm c.E f ew [] r acc).1->_;intro hp;generalize hF:Qm c.E f ew [] r acc=F at hp ⊢;rw[Qm] at hF;split at hF
  .rename_i pre v hc;split at hF
   .rename_i y hy;subst hF;have:=TV.aN hy;subst this;obtain⟨h1,h2⟩:=hE.Mf f _ _ _ hc hp;exact⟨h1,h2.ok0⟩
   .subst hF;exact hp.elim
  .subst hF;exact hp.elim
 | t::ts,r,acc=>λ x=>vO hE ts r (acc++[.val ⟨t,x⟩])
theorem NK{P:Program}{f:FuncId}{ew:List Arg}:∀ {ps:List Ty} {r:Ty} {F:FN ps r} {acc Z9:List Arg} {p:Prop} {y:r.den},Bt P f ew ps r F acc->te ps r F Z9=some (p,y)->p ->
  (j9 P f/\JE P f (acc++Z9++ew) (·=[⟨r,y⟩]))/\∀ z∈Z9,∃ v,z = .val v
 | [],r,F,acc,[],p,y,h,e,hp=>by
  simp only[te,Option.some.injEq] at e;have h':F.1->j9 P f/\JE P f (acc++ew) (·=[⟨r,F.2⟩]):=h;rw[e] at h';refine⟨by simpa using h' hp,by simp⟩
 | t::ts,r,F,acc, .val z::zs,p,y,h,e,hp=>by
  simp only[te] at e;split at e
  .rename_i x hx;have h':∀ x,Bt P f ew ts r (F x) (acc++[.val ⟨t,x⟩]):=h;obtain⟨h1,h2⟩:=NK (h' x) e hp;have:=TV.aN hx;subst this;refine⟨by simpa using h1,λ z hz=>?_⟩;rcases List.mem_cons.1 hz with rfl|hz
   .exact⟨_,rfl⟩
   .exact h2 z hz
  .cases e
 | [],_,_,_,_::_,_,_,_,e,_=>by simp[te] at e
 | _::_,_,_,_,[],_,_,_,e,_=>by simp[te] at e
 | _::_,_,_,_, .ref _::_,_,_,_,e,_=>by simp[te] at e
 | _::_,_,_,_, .fn _::_,_,_,_,e,_=>by simp[te] at e
 | _::_,_,_,_, .cO _::_,_,_,_,e,_=>by simp[te] at e
theorem BT(hE:bl c.P c.E){S:Nat->Prop}{lk':Nat->Option av}(hI:bf c G sl n lk a w)(bS:∀ id o,lk' id=some o->lk id=some o)(OJ:∀ b,G.S b->S b)
  (gV:∀ (τ:Ty) v x (y:τ.den),uP lk' τ v=some y->VR c G lk w v x->dE w S ⟨τ,y⟩ x) {g:AV} {x:Value} {q:FV} (h:BS c.E lk' g=some q) (hx:VR c G lk w g x):vC c.P w S (.cO q) x:=by
 unfold BS at h;split at h
 .rename_i f cs;split at h
  .rename_i k _;split at h
   .rename_i Z9 has;simp only[b5E] at h;subst h;obtain⟨l,h1,h2⟩:=hx;exact⟨f,Z9,l,h1,vO hE _ _ _,BR hI bS gV has h2⟩
   .cases h
  .cases h
 .simp only[b5E] at h;subst h;obtain⟨f,ew,l,h1,h2,h3⟩:=hx;refine⟨f,ew,l,h1,h2,h3.imp λ u y _ hy=>?_⟩;cases u with
  | val v=>exact dE.mono (G:=G) (G':=⟨S,G.η,G.φ⟩) hy OJ (λ _ _=>rfl)
  | ref v =>
   obtain⟨b,o,cs,k1,k2,k3,k4⟩:=hy;refine⟨b,o,cs,k1,?_,k3,Rd.keep OJ (λ _ _=>rfl) _ k4⟩;exact k2.elim (hI.dx b) λ k=>b6a k.1 hI.keep.size
  | fn f=>exact hy
  | cO v=>exact hy.elim
  | own v=>exact hy.elim
  | box k=>exact hy.elim
 .rename_i f;split at h
  .rename_i k _;split at h
   .simp only[b5E] at h;subst h;exact⟨f,[],[],hx,vO hE _ _ _,af⟩
   .cases h
  .cases h
 .cases h
theorem ic(hE:bl c.P c.E){S:Nat->Prop}{lk':Nat->Option av}(hI:bf c G sl n lk a w)(bS:∀ id o,lk' id=some o->lk id=some o)(OJ:∀ b,G.S b->S b)
  (gV:∀ (τ:Ty) v x (y:τ.den),uP lk' τ v=some y->VR c G lk w v x->dE w S ⟨τ,y⟩ x) :
  ∀ {Ts:List TypeId} {vs:List AV} {Z9:List Arg} {xs:List Value},lU c.E lk' Ts vs=some Z9->aM (VR c G lk w) vs xs->aM (vC c.P w S) Z9 xs
 | [],[],Z9,xs,h,hv=>by
  simp only[lU,b5E] at h;subst h;match xs,hv with
  | [],_=>trivial
 | T::Ts,v::vs,Z9,xs,h,hv=>by
  simp only[lU] at h;split at h
  .rename_i p hp;split at h
   .rename_i r hr;simp only[b5E] at h;subst h;match xs,hv with
    | x::xs,hv =>
     refine⟨?_,ic hE hI bS OJ gV hr hv.2⟩;have hx:=hv.1;unfold P7 at hp;split at hp
     .split at hp
      .rename_i y hy;simp only[b5E] at hp;subst hp;exact gV _ _ _ _ hy hx
      .cases hp
     .split at hp
      .rename_i τ _;split at hp
       .rename_i y hy;simp only[b5E] at hp;subst hp;exact Ey hI bS gV hy hx
       .cases hp
      .split at hp
       .rename_i q hq;simp only[b5E] at hp;subst hp;exact BT hE hI bS OJ gV hq hx
       .split at hp
        .simp only[b5E] at hp;subst hp;exact hx
        .cases hp
   .cases h
  .cases h
 | [],_::_,_,_,h,_=>by cases h
 | _::_,[],_,_,h,_=>by cases h
theorem yF{S:Nat->Prop}{res:List TV}{x:Value}(h:Hk w S res x){η:Nat->Value}{φ:Nat->List Nat}:VR c ⟨S,η,φ⟩ lk w (CE res) x:=by
 match res,h with
 | [v],h=>exact h
 | [],h =>
  obtain⟨l,h1,h2⟩:=h;exact⟨l,h1,aM.dA _ h2⟩
 | v::u::r,h =>
  obtain⟨l,h1,h2⟩:=h;exact⟨l,h1,aM.dA _ h2⟩
theorem Ua{S S':Nat->Prop}{res:List TV}{x:Value}(hf:res.all TV.flat=true)(h:Hk w S res x):Hk w S' res x:=by
 have gW:∀ v∈res,v.flat=true:=b6y.1 hf;match res,h,gW with
 | [v],h,gW=>exact QI (gW v (by simp)) h
 | [],h,gW =>
  obtain⟨l,h1,h2⟩:=h;exact⟨l,h1,h2.imp λ v y hv hy=>QI (gW v hv) hy⟩
 | v::u::r,h,gW =>
  obtain⟨l,h1,h2⟩:=h;exact⟨l,h1,h2.imp λ v y hv hy=>QI (gW v hv) hy⟩
theorem NR(hE:bl c.P c.E)(hI:bf c G sl n lk a w){lk':Nat->Option av}(bS:∀ id o,lk' id=some o->lk id=some o){o:Oper}{f:FuncId}{Ts:List TypeId}{vs:List AV}{xs:List Value}
  {vc:Vc} {v:AV} {ob:Option av} (hq:Gc c.E lk' f Ts vs=some (vc,v,ob)) (eb:vc.ok) (kE:aM (VR c G lk w) vs xs)
  (cJ:j9 c.P f->(execOp a.eval o).run c.P w = .ok (.enter f xs.toArray) w) {Q:Exit->Act->World->Prop}:o.wp c.P a w (xL c G sl n lk o.dst a w v ob) Q:=by
 have fin:∀ (S:Nat->Prop) (Z9:List Arg) (pre:Vc) (res:List TV),c.E.Mf f Z9=some (pre,res)->pre.ok->aM (vC c.P w S) Z9 xs->pO w S ->
   (∀ S' w' x,bX (λ _=>False) w w'->(∀ b,b<w.heap.size->(S' b↔S b))->(∀ b,S' b->b<w'.heap.size)->Hk w' S' res x->xL c G sl n lk o.dst a w (CE res) none (a.put o.dst x) w') ->
   o.wp c.P a w (xL c G sl n lk o.dst a w (CE res) none) Q:=by
  intro S Z9 pre res hc Q4 has bp IT;obtain⟨qD,kB⟩:=hE.Mf f Z9 pre res hc Q4;unfold Oper.wp;rw[cJ qD];simp only[Oper.upon];refine (kB w S xs bp has).mono ?_;rintro e w' ⟨x,S',b4o,rfl,rfl,h1,h2,h3,h4⟩;exact IT S' w' x h1 h2 h3 h4
 unfold Gc at hq;split at hq
 .rename_i Z9 has;split at hq
  .rename_i pre res hc;simp only[b5E,b5H] at hq;obtain⟨rfl,rfl,rfl⟩:=hq;refine fin G.S Z9 _ _ hc eb (ic hE hI (Cz bS) (λ _ h=>h) (λ τ v x y h1 h2=>zZ CA yC h1 h2) has kE) hI.sOk ?_;intro S' w' x h1 h2 h3 h4;exact⟨x,S',rfl,hI.grow h1 h2 h3,yF h4⟩
  .cases hq
 .split at hq
  .rename_i Z9 has;split at hq
   .rename_i pre res hc;split at hq
    .rename_i SV;simp only[b5E,b5H] at hq;obtain⟨rfl,rfl,rfl⟩:=hq;refine fin (SX G lk) Z9 _ _ hc eb (ic hE hI bS (λ _ h => .inl h) (λ τ v x y h1 h2=>xO hI.aP hI.aK bS h1 h2) has kE) ?_ ?_
     .exact hI.YY
     .intro S' w' x h1 h2 h3 h4;exact⟨x,G.S,rfl,hI.grow (S':=G.S) h1 (λ _ _=>b7k) (λ b hb=>b6a (hI.dx b hb) h1.size),yF (Ua SV h4)⟩
    .cases hq
   .cases hq
  .cases hq
theorem Ti{o:Oper}{cl:Call}{fo:Operand}{f:FuncId}{l:List Value}(ho:o.op = .call cl)(hc:cl.callee = .value fo)(hf:a.eval fo = .func (.func f) #[] l.toArray)(qD:j9 c.P f) :
  (execOp a.eval o).run c.P w = .ok (.enter f (cl.args.toList.map a.eval++l).toArray) w:=by
 obtain⟨fn,h1,h2,h3⟩:=qD;have h3':(fn.name = "runtime.NumGoroutine")=False:=by simpa using h3
 have SP:fn.body≠none:=by intro e;simp[e] at h2
 simp[execOp,ho,resolve,hc,Deferred.ofValue,hf,invoke,callFunc,h1,SP,h3']
theorem Es(hE:bl c.P c.E)(hI:bf c G sl n lk a w){lk':Nat->Option av}(bS:∀ id o,lk' id=some o->lk id=some o){o:Oper}{cl:Call}{fo:Operand}{g:AV}{Ts:List TypeId}{vs:List AV}
  {vc:Vc} {v:AV} {ob:Option av} (hq:Aq c.E lk' g Ts vs=some (vc,v,ob)) (eb:vc.ok) (kE:aM (VR c G lk w) vs (cl.args.toList.map a.eval)) (bh:o.op = .call cl) (fX:cl.callee = .value fo) (hg:VR c G lk w g (a.eval fo))
  {Q:Exit->Act->World->Prop}:o.wp c.P a w (xL c G sl n lk o.dst a w v ob) Q:=by
 have fin:∀ (S:Nat->Prop) (Z9:List Arg) (q:FV) (pre:Prop) (y:q.r.den),te q.ps q.r q.F Z9=some (pre,y)->pre->aM (vC c.P w S) Z9 (cl.args.toList.map a.eval)->vC c.P w S (.cO q) (a.eval fo)->pO w S ->
   (∀ S' w' x,bX (λ _=>False) w w'->(∀ b,b<w.heap.size->(S' b↔S b))->(∀ b,S' b->b<w'.heap.size)->Hk w' S' [⟨q.r,y⟩] x->xL c G sl n lk o.dst a w (CE [⟨q.r,y⟩]) none (a.put o.dst x) w') ->
   o.wp c.P a w (xL c G sl n lk o.dst a w (CE [⟨q.r,y⟩]) none) Q:=by
  intro S Z9 q pre y VK Q4 has b3L bp IT;obtain⟨f,ew,l,h1,h2,h3⟩:=b3L;obtain⟨⟨qD,kB⟩,XU⟩:=NK h2 VK Q4;unfold Oper.wp;rw[Ti bh fX h1 qD];simp only[Oper.upon];simp only[List.nil_append] at kB;have b3E:aM (H2 w S) Z9 (cl.args.toList.map a.eval):=has.imp λ u z hu hz=>by
   obtain⟨v,rfl⟩:=XU u hu;exact hz
  refine (kB w S _ bp (b3E.append h3)).mono ?_;rintro e w' ⟨x,S',b4o,rfl,rfl,h1,h2,h3,h4⟩;exact IT S' w' x h1 h2 h3 h4
 unfold Aq at hq;split at hq
 .rename_i r0 Q5;split at Q5
  .rename_i Z9 has;split at Q5
   .rename_i q hqq;split at Q5
    .rename_i pre y VK;simp only[b5E] at Q5 hq;subst Q5;simp only[b5H] at hq;obtain⟨rfl,rfl,rfl⟩:=hq;refine fin G.S Z9 q pre y VK eb (ic hE hI (Cz bS) (λ _ h=>h) (λ τ v x y h1 h2=>zZ CA yC h1 h2) has kE) (BT hE hI (Cz bS) (λ _ h=>h) (λ τ v x y h1 h2=>zZ CA yC h1 h2) hqq hg) hI.sOk ?_;intro S' w' x h1 h2 h3 h4;exact⟨x,S',rfl,hI.grow h1 h2 h3,yF h4⟩
    .cases Q5
   .cases Q5
  .cases Q5
 .split at hq
  .rename_i Z9 has;split at hq
   .rename_i q hqq;split at hq
    .rename_i pre y VK;split at hq
     .rename_i SV;simp only[b5E,b5H] at hq;obtain⟨rfl,rfl,rfl⟩:=hq;refine fin (SX G lk) Z9 q pre y VK eb (ic hE hI bS (λ _ h => .inl h) (λ τ v x y h1 h2=>xO hI.aP hI.aK bS h1 h2) has kE) (BT hE hI bS (λ _ h => .inl h) (λ τ v x y h1 h2=>xO hI.aP hI.aK bS h1 h2) hqq hg) ?_ ?_
      .exact hI.YY
      .intro S' w' x h1 h2 h3 h4;exact⟨x,G.S,rfl,hI.grow (S':=G.S) h1 (λ _ _=>Iff.rfl) (λ b hb=>Nat.lt_of_lt_of_le (hI.dx b hb) h1.size),yF (Ua (res:=[⟨q.r,y⟩]) (by simpa using SV) h4)⟩
     .cases hq
    .cases hq
   .cases hq
  .cases hq
theorem gJ{o:Oper}{cl:Call}{fo:Operand}{f:FuncId}(ho:o.op = .call cl)(hc:cl.callee = .value fo)(hf:a.eval fo = .func (.func f) #[] #[])(qD:j9 c.P f) :
  (execOp a.eval o).run c.P w = .ok (.enter f (cl.args.toList.map a.eval).toArray) w:=by
 obtain⟨fn,h1,h2,h3⟩:=qD;have h3':(fn.name = "runtime.NumGoroutine")=False:=by simpa using h3
 have SP:fn.body≠none:=by intro e;simp[e] at h2
 simp[execOp,ho,resolve,hc,Deferred.ofValue,hf,invoke,callFunc,h1,SP,h3'];apply b9o;simp
theorem aM.jV{ev:Operand->AV}(cG:∀ x,VR c G lk w (ev x) (a.eval x)):∀ l:List Operand,aM (VR c G lk w) (l.map ev) (l.map a.eval)
 | []=>trivial
 | x::r=>⟨cG x,aM.jV cG r⟩
theorem aM.Bc{ev:Operand->AV}(cG:∀ x,VR c G lk w (ev x) (a.eval x)):∀ l:List (Nat×Operand),
  aM (λ p q=>p.1=q.1/\VR c G lk w p.2 q.2) (l.map λ p=>(p.1,ev p.2)) (l.map λ p=>(p.1,a.eval p.2))
 | []=>trivial
 | x::r=>⟨⟨rfl,cG x.2⟩,aM.Bc cG r⟩
theorem jC{S:Nat->Prop}{t:Ty}{xs:List t.den}{x:Value}(h:dE w S ⟨.slice t,xs⟩ x):∃ ad cap,x = .slice ad xs.length cap/\xs.length<=cap/\xs.length<=140737488355328 /\
  (xs=[]\/∃ b o,ad=some ⟨b,o,none⟩/\S b/\dh w S (xs.map t.aL) b o):=by
 obtain⟨ad,cap,h1,h2,h3,h4,h5⟩:=h;simp only[List.cons.injEq,and_true,List.length_map] at h1;exact⟨ad,cap,h1,by simpa using h2,by simpa using h4,h5.imp (λ h=>by simpa using h) id⟩
theorem a8i(lo hi m n:Int)(h1:lo<=m/\m<=hi)(h2:lo<=n/\n<=hi):lo<=max m n/\max m n<=hi:=by omega
theorem a8h(m n:Int):(if n>m then n else m)=max m n:=by
 rw[Int.max_def];split<;>split<;>omega
theorem Yo(hE:bl c.P c.E){op:BinOp}{T:TypeId}{u v r:AV}{x y:Value}{p:Vc}(ox oy:Operand)
  (h:Wi c.E op T u v=some (p,r)) (hp:p.ok) (hu:VR c G lk w u x) (hv:VR c G lk w v y) :
  ∃ z,(do eqGuard op T ox oy x y;binOp op T x y:Sem Value).run c.P w = .ok z w/\VR c G lk w r z:=by
 unfold Wi at h;split at h
 .rename_i t r1 τ xs hl;have hy:y = .slice none 0 0:=hv;subst hy;obtain⟨r1,r2⟩:=r1;obtain⟨hT,_⟩:=hE.slice hl;obtain⟨a,cap,h1,_,h3⟩:=jC hu;subst h1;have heq:(Op.equal T (.slice a xs.length cap) (.slice none 0 0)).run c.P w = .ok a.isNone w:=by
   have h9:∀ d:Nat,(Op.equalIn (d+1) T (.slice a xs.length cap) (.slice none 0 0)).run c.P w = .ok a.isNone w:=λ d=>by
    cases a<;>simp[Op.equalIn,b6F hT]
   exact h9 9999
  have key:1<=xs.length->a.isNone=false:=λ hx=>by
   rcases h3.2 with h|⟨b,o,h,_⟩
   .subst h;simp at hx
   .subst h;rfl
  split at h
  .simp only[b5E,b5H] at h;obtain⟨rfl,rfl⟩:=h;refine⟨.bool false,?_,rfl⟩;simp only[eqGuard_at_slice,b6p,b6q,b6i,binOp,heq,key hp]
  .simp only[b5E,b5H] at h;obtain⟨rfl,rfl⟩:=h;refine⟨.bool true,?_,rfl⟩;simp only[eqGuard_at_slice,b6p,b6q,b6i,binOp,heq,key hp];rfl
  .cases h
 .cases h
theorem a3m{S:Nat->Prop}{t:Ty}{ys:List t.den}{ad:Option Addr}{m cap:Nat}(h1:ys.length=m)(h2:m<=cap)(h3:cap<=maxLen)(h4:m<=140737488355328)
  (h5:ys=[]\/∃ b o,ad=some ⟨b,o,none⟩/\S b/\dh w S (ys.map t.aL) b o):dE w S ⟨.slice t,ys⟩ (.slice ad m cap):=by
 subst h1;exact⟨ad,cap,by simp,by simpa using h2,h3,by simpa using h4,h5.imp (λ h=>by simp[h]) id⟩
theorem pG(hE:bl c.P c.E){T:TypeId}{t:Ty}{b e:Nat}(h:ai c.E.ty T=some (.slice t,b,e)){bk o len cap:Nat}{k:IntKind}{i:Int}(h0:0<=i)(h1:i<len)(w:World) :
  (Instr.indexAt T (.slice (some ⟨bk,o,none⟩) len cap) (.int k i)).run c.P w = .ok (.pointer (some ⟨bk,o+i.toNat * t.size,none⟩)) w:=by
 obtain⟨h2,⟨b',e',h3⟩,_⟩:=hE.slice h;simp[Instr.indexAt,b6F h2,asIntOf,h0,h1,hE.sizeOf h3 w,b8i]
theorem Hv(s:aH)(y:s.den)(i:Nat){f:TV}(hf:(s.fields y)[i]?=some f):((s.cells y).drop (s.dL i)).take f.τ.size=f.cells/\s.dL i+f.τ.size<=s.size:=by
 have xH:∀ v:TV,v.cells.length=v.τ.size:=by
  rintro⟨τ,x⟩;cases τ<;>first|rfl|exact aH.gm _ _
 have key:∀ (l:List TV) (i:Nat) (f:TV),l[i]?=some f->((l.flatMap TV.cells).drop ((l.map TV.τ).take i |>.map Ty.size).sum).take f.τ.size=f.cells/\(((l.map TV.τ).take i).map Ty.size).sum+f.τ.size<=(l.flatMap TV.cells).length:=by
  intro l;induction l with
  | nil=>intro i f h;simp at h
  | cons g l ih =>
   intro i f h;cases i with
   | zero =>
    simp at h;subst h;have:=xH g;simp only[b7K,b7f,List.sum_nil,b8h,b7z,b5Y,b7P];exact⟨by rw[<-this,b8a],by omega⟩
   | succ i =>
    obtain⟨h1,h2⟩:=ih i f (by simpa using h);simp only[List.map_cons,List.take_succ_cons,List.sum_cons,List.flatMap_cons,List.length_append,<-xH g];refine⟨?_,by omega⟩;rw[<-List.drop_drop,List.drop_left];exact h1
 have:=key _ i f hf;rw[<-aH.Hr,aH.EI,aH.gm] at this;exact this
theorem NW{S:Nat->Prop}{s:aH}{y:s.den}{i:Nat}{f:TV}(hf:(s.fields y)[i]?=some f){cs:List Value}(h:Rd w S (TV.aL ⟨.st s,y⟩) cs):Rd w S f.aL ((cs.drop (s.dL i)).take f.τ.size):=by
 obtain⟨h1,_⟩:=Hv s y i hf;rw[show TV.aL ⟨.st s,y⟩=s.aL y from rfl,aH.bT] at h;have h2:=((cP.vI.1 h).drop (s.dL i)).take f.τ.size;rw[h1] at h2;obtain⟨τ,x⟩:=f;cases τ with
 | st s' =>
  show Rd w S (s'.aL x) _;rw[aH.bT];exact cP.vI.2 h2
 | _ =>
  simp only[TV.cells] at h2;match hc:(cs.drop (s.dL i)).take (Ty.size _),h2 with
  | [v],h2=>exact h2.1
theorem Xt{S:Nat->Prop}{s:aH}{y:s.den}{i:Nat}{f:TV}(hf:(s.fields y)[i]?=some f){cs:List Value}(h:Rd w S (s.aL y) cs):s.dL i+f.τ.size<=cs.length/\True:=by
 obtain⟨_,h1⟩:=Hv s y i hf;have:=Rd.length _ h;rw[aH.bT] at this;simp only[D.size,b6G,aH.gm] at this;exact⟨by omega,af⟩
theorem rq{n:aH}{i:Nat}{v r:AV}{x:Value}(h:Km n i v=some r)(hx:VR c G lk w v x) :
  ∃ b o,x = .pointer (some ⟨b,o,none⟩)/\i<n.c9.length/\VR c G lk w r (.pointer (some ⟨b,o+n.dL i,none⟩)):=by
 unfold Km at h;split at h
 .split at h
  .rename_i y hy;have e:=TV.aN hy;subst e;split at h
   .rename_i f hf;simp only[b5E] at h;subst h;obtain⟨b,o',cs,h1,h2,h3,h4⟩:=hx;refine⟨b,o',h1,?_,b,o'+n.dL i,(cs.drop (n.dL i)).take f.τ.size,rfl,h2,h3.part _ _,NW hf h4⟩;have:=(b6o.1 hf).1;rw[<-aH.EI n y,b6G];exact this
   .cases h
  .cases h
 .split at h
  .rename_i bp;simp only[Option.some.injEq] at h;subst h;have bp:i<n.c9.length:=by simpa [Nat.blt_eq] using bp
   obtain⟨b,h1,h2,h3⟩:=hx;exact⟨b,_,h2,bp,b,h1,rfl,h3⟩
  .cases h
 .split at h
  .rename_i bp;simp only[Option.some.injEq] at h;subst h;have bp:i<n.c9.length:=by simpa [Nat.blt_eq] using bp
   obtain⟨b,m,cap,e,τ,xs,h1,h2,h3,h4⟩:=hx;exact⟨b,_,h4,bp,b,m,cap,e,τ,xs,h1,h2,h3,by rw[b8E]⟩
  .cases h
 .cases h
theorem Kn{n:aH}{i:Nat}{v r:AV}{x:Value}(h:Px n i v=some r)(hx:VR c G lk w v x) :
  ∃ (cs:List Value) (t:Ty),x = .agg cs.toArray/\n.c9[i]?=some t/\n.dL i+t.size<=cs.length/\VR c G lk w r (A2 t ((cs.drop (n.dL i)).take t.size)):=by
 unfold Px at h;split at h
 .split at h
  .rename_i y hy;have e:=TV.aN hy;subst e;split at h
   .rename_i f hf;simp only[b5E] at h;subst h;obtain⟨cs,h1,h2⟩:=hx;have hty:n.c9[i]?=some f.τ:=by rw[<-aH.EI n y,b7m,hf];rfl
    obtain⟨h3,h4⟩:=Xt hf h2;exact⟨cs,f.τ,h1,hty,h3,dE.mk_ (NW hf h2)⟩
   .cases h
  .cases h
 .split at h
  .rename_i τ eN;obtain⟨l,h1,h2⟩:=hx;obtain⟨h3,h4,h5⟩:=EO h2 h;exact⟨l,τ,h1,eN,h5,h3⟩
  .cases h
 .cases h
theorem Ty.size_le(τ:Ty):τ.size<=100:=by
 have:∀ s:aH,s.size<=100:=by intro s;cases s<;>decide
 cases τ<;>first|exact this _|(simp[Ty.size];done)
theorem Rd.qV{S:Nat->Prop}{τ:Ty}{x:τ.den}{cs:List Value}(h:Rd w S (τ.aL x) cs):∀ u∈cs,u.oneCell'=true:=by
 cases τ with
 | st s =>
  rw[show Ty.aL (.st s) x=s.aL x from rfl,aH.bT] at h;have ha:=cP.vI.1 h;intro u hu;obtain⟨i,hi,hiu⟩:=b8k hu;have hlen:=ha.length;obtain⟨b,hb,hr⟩:=ha.at_ i (s.cells x)[i] (b6e (by omega));have hbu:b=u:=by
   have:cs[i]?=some u:=by rw[b6e hi,hiu]
   rw[this] at hb;exact (b7N hb).symm
  subst hbu;obtain⟨z,h1,h2⟩:=Rd.tU (aH.oA s x _ (b7a _)) hr;simp only[b5J,b5W] at h1;subst h1;exact yz h2
 | _ =>
  obtain⟨z,rfl,h2⟩:=Rd.tU (jk (v:=⟨_,x⟩) rfl) h;intro u hu;simp only[b5Z] at hu;subst hu;exact yz h2
theorem dP.qV{S:Nat->Prop}{τ:Ty}:∀ {xs:List τ.den} {l:List Value},dP w S (xs.map τ.aL) l->∀ u∈l,u.oneCell'=true
 | [],l,h=>by rw[show l=[] from h];simp
 | x::xs,l,h=>by
  obtain⟨c1,r,rfl,h2,h3⟩:=h;intro u hu;rcases b5F.1 hu with hu|hu
  .exact Rd.qV h2 u hu
  .exact dP.qV h3 u hu
def Src(w:World)(S:Nat->Prop)(τ:Ty)(ys:List τ.den)(z:Value):Prop :=
 ∃ ad cap,z = .slice ad ys.length cap/\(ys=[]\/∃ b o news,ad=some ⟨b,o,none⟩/\bP w b o news/\dP w S (ys.map τ.aL) news)
theorem FM{lk lk':Nat->Option av}(bS:∀ id o,lk' id=some o->lk id=some o)(id:Nat)(o:av)(h:La lk' id=some o):lk id=some o:=by
 unfold La at h;split at h
 .cases h
 .exact bS id o h
theorem Yp{lk:Nat->Option av}(id:Nat)(τ:Ty)(xs:List τ.den):La lk id≠some (.aC τ xs):=by
 unfold La;split
 .simp
 .rename_i hU;exact hU _ _
theorem a1h(kh:∀ id o,lk id=some o->OR c G lk w id o){lk':Nat->Option av}(bS:∀ id o,lk' id=some o->lk id=some o)(My:∀ id τ xs,lk' id≠some (.aC τ xs)){τ:Ty}{v:AV}{z:Value}{ys:List τ.den}(h:jv lk' (.slice τ) v=some ys)
  (hv:C1 c G lk w v z):Src w G.S τ ys z:=by
 cases v with
 | aO u =>
  have e:=TV.aN h;subst e;obtain⟨ad,cap,h1,h2,h3,h4⟩:=jC (show dE w G.S ⟨.slice τ,ys⟩ z from hv.2);refine⟨ad,cap,h1,h4.imp id ?_⟩;rintro⟨b,o,h5,h6,h7⟩;obtain⟨news,h8,h9⟩:=dh.cells _ b o h7;exact⟨b,o,news,h5,h9,h8⟩
 | nil =>
  simp only[jv,b5E] at h;subst h;exact⟨none,0,hv, .inl rfl⟩
 | row id =>
  simp only[jv] at h;split at h
  .rename_i e aU xs hl;have e1:=TV.aN h;cases e1;have pd:=bS _ _ hl;obtain⟨l,h1,h2,h3⟩:=kh _ _ pd;rcases h1.2 with ⟨V0,hn⟩|⟨g,cap,cur,V0,_⟩
   .exact⟨none,0,by rw[hv.1,V0,hn], .inl (b6S hn)⟩
   .refine⟨some ⟨g,0,none⟩,cap,by rw[hv.1,V0], .inr ⟨g,0,l,rfl,?_,h2⟩⟩;intro j u hj;have:=h1.cells (g:=g) (by rw[V0];rfl) j u hj;rw[b8i] at this;exact this
  .cases h
 | aC id =>
  simp only[jv] at h;split at h
  .rename_i hl;exact absurd hl (My _ _ _)
  .cases h
 | _=>cases h
theorem NL{S:Nat->Prop}{base:Nat}(hE:bl c.P c.E){T:TypeId}{τ:Ty}{b e n:Nat}{v z:Value}{l:List Value}{ys:List τ.den}(hT:ai c.E.ty T=some (.slice τ,b,e))(kV:w.ownsRow base e τ.size v n l)
  (VL:base<=w.heap.size) (gV:Src w S τ ys z) (Cd:bn (n+ys.length) b) (ty:TypeId) :
  ∃ v' w' news,(Builtin.append_ #[T,T] ty #[v,z]).run c.P w = .ok v' w'/\w'.ownsRow base e τ.size v' (n+ys.length) (l++news)/\w.grownBy w' v.ownBlock/\(v'.ownBlock=v.ownBlock\/v'.ownBlock=some w.heap.size) /\
   dP w S (ys.map τ.aL) news/\n+ys.length<=140737488355328:=by
 obtain⟨k1,⟨b',e',k2⟩,i,zv,k3,k4,k5,k6,k7⟩:=hE.slice hT;have Rb:zv.cells.size=τ.size:=by
  have:=Rd.length _ (LO (w:=w) (S:=S) k7);rwa [Ty.cA,b6M] at this
 have E0:=τ.size_pos;have OP:(n+ys.length) * b<=140737488355328/\n+ys.length<=140737488355328:=by
  unfold bn at Cd;rw[Nat.mul_add,Nat.mul_one] at Cd;omega
 have KJ:n+ys.length<=maxLen:=by simp only[maxLen];omega
 obtain⟨ad,cap,h1,h4⟩:=gV;subst h1;by_cases hy:ys=[]
 .subst hy;simp only[b6d,b7W] at *
  cases ad with
  | none =>
   refine⟨v,w,[],?_,by simpa using kV,⟨rfl,rfl,rfl,Nat.le_refl _,λ _ _ _=>rfl⟩, .inl rfl,rfl,OP.2⟩;rcases kV.2 with ⟨rfl,rfl⟩|⟨g,TH,cur,rfl,_,_,SZ,_⟩
   .simp[Builtin.append_,b6F k1,sizeOf,typeInfo,k3,Builtin.lenOf,Builtin.firstCells]
   .simp[Builtin.append_,b6F k1,sizeOf,typeInfo,k3,Builtin.lenOf,Builtin.firstCells,SZ,storeCells]
  | some ad =>
   obtain⟨v',w',m1,m2,m3,_,m5⟩:=run_append_own_at (P:=c.P) w base T ty e i zv τ.size b k1 k3 k6 k4 k5 Rb E0 v n l kV ad 0 cap [] (by simp) (by simp) (by simp) KJ OP.1 VL;exact⟨v',w',[],m1,m2,m3,m5,rfl,OP.2⟩
 .rcases h4 with h4|⟨bk,o',news,rfl,h8,h7⟩
  .exact absurd h4 hy
  .skip;have hlen:news.length=ys.length * τ.size:=by
    have:=dP.length (n:=τ.size) _ h7 (by
     intro d hd;obtain⟨y,_,rfl⟩:=b5N.1 hd;exact Ty.cA τ y)
    simpa using this
   obtain⟨v',w',m1,m2,m3,_,m5⟩:=run_append_own_at (P:=c.P) w base T ty e i zv τ.size b k1 k3 k6 k4 k5 Rb E0 v n l kV ⟨bk,o',none⟩ ys.length cap news hlen (λ j u hj=>by rw[b8i];exact h8 j u hj) (dP.qV h7) KJ OP.1 VL;exact⟨v',w',news,m1,m2,m3,m5,h7,OP.2⟩
theorem Qi{ev:Operand->AV}(cG:∀ x,VR c G lk w (ev x) (a.eval x)){d l:Int}{lo:Option Operand}(h:oW d (lo.map ev)=some l):(lo=none/\l=d)\/∃ k,lo.map a.eval=some (.int k l):=by
 cases lo with
 | none =>
  simp only[b8V,oW,b5E] at h;exact .inl ⟨rfl,h.symm⟩
 | some x =>
  simp only[b8o,oW] at h;split at h
  .rename_i hn;cases hn
  .rename_i k n hn;simp only[b5E] at h hn;subst h;have hx:=cG x;rw[hn] at hx;obtain⟨hx,_⟩:=hx;simp only[b5J,b5W] at hx;exact .inr ⟨k,by simp[hx]⟩
  .cases h
theorem NP{ev:Operand->AV}(cG:∀ x,VR c G lk w (ev x) (a.eval x)){l h:Int}{len cap:Nat}{lo hi:Option Operand}(sl:Bool)(hl:oW 0 (lo.map ev)=some l)(hh:oW (len:Int) (hi.map ev)=some h)
  (hc:ei l h len) (EU:len<=cap) (P:Program) (w':World):(Instr.sliceBounds sl len cap (lo.map a.eval) (hi.map a.eval) none).run P w' = .ok (l.toNat,h.toNat,cap) w':=by
 obtain⟨h0,h1,h2⟩:=hc;have e1:(h.toNat:Int)=h:=b7O (by omega);rcases Qi cG hl with ⟨rfl,rfl⟩|⟨k,hk⟩<;>rcases Qi cG hh with ⟨rfl,rfl⟩|⟨k',iP⟩
 .simp[Instr.sliceBounds]
 .simp[Instr.sliceBounds,iP,b9P,show 0<=h from by omega,show h<=(cap:Int) from by omega]
 .simp[Instr.sliceBounds,hk,b9P,h0,h1]
 .simp[Instr.sliceBounds,hk,iP,b9P,h0,h1,show 0<=h from by omega,show h<=(cap:Int) from by omega,e1]
theorem Ob{n m:Int}{b:Nat}(h:cY n m b):0<=n/\n<=m/\m<=140737488355328/\(b:Int) * m<=140737488355328:=by
 obtain⟨h1,h2,h3⟩:=h;have e:m * ((b:Int)+1)=m * b+m:=by rw[Int.mul_add,Int.mul_one]
 have p:0<=m * (b:Int):=Int.mul_nonneg (by omega) (by omega);have q:(b:Int) * m=m * b:=Int.mul_comm _ _;exact⟨h1,h2,by omega,by omega⟩
theorem a3a(hE:bl c.P c.E){T:TypeId}{τ:Ty}{b e:Nat}(hT:ai c.E.ty T=some (.slice τ,b,e)){n m:Int}(h:cY n m b)(w:World)
  (cb:∀ w',bX (λ _=>False) w w'->∀ b,G.S b->w'.heap[b]?=w.heap[b]?) :
  ∃ cap cs,(Instr.makeSlice T (.int .i64 n) (.int .i64 m)).run c.P w = .ok (.slice (some ⟨w.heap.size,0,none⟩) n.toNat cap) (w.alloc (.cells cs e)) /\
   a1f c G lk (w.alloc (.cells cs e)) (.slice (some ⟨w.heap.size,0,none⟩) n.toNat cap) (.row e τ (List.replicate n.toNat τ.zero)):=by
 obtain⟨v1,v2,v3,v4⟩:=Ob h;obtain⟨h1,_,i,z,h3,h4,h5,h6,h7⟩:=hE.slice hT;have hzr:=LO (w:=w) (S:=G.S) h7;have hzl:=Rd.length _ hzr;rw[Ty.cA,b6M] at hzl;have hr:=run_make (P:=c.P) w T e i z h1 h3 h6 .i64 .i64 n m v1 v2 (by rw[h5];omega) (by omega);refine⟨m.toNat,madeCells z.cells (m.toNat * i.size),hr,(madeCells z.cells (n.toNat * z.cells.size)).toList,?_,?_,by simp;omega⟩
 .refine⟨by simp[madeCells,hzl], .inr ⟨w.heap.size,m.toNat,madeCells z.cells (m.toNat * i.size),by simp,b6L _,b7L w _,by simp;omega,by simp only[maxLen];omega,by simp[size_madeCells,h4],?_⟩⟩;rw[h4,hzl,List.length_replicate];exact Ds _ _ _ (b7M _ (by omega))
 .rw[c0c];exact dP.keep (λ _ h=>h) (cb _ (fw w _)) _ (HK hzr n.toNat)
theorem bl.map(hE:bl c.P c.E){T:TypeId}{κ ε:Ty}(h:ai c.E.K7 T=some (κ,ε))(w:World) :
  ∃ kT eT,c.P.underlying T=some (.map kT eT)/\JC c.P kT κ/\κ.HI=true/\ε.key=true/\∃ z,(zeroValue eT).run c.P w = .ok z w/\oL ε ε.zero z:=by
 have:=hE.K7 T κ ε h;unfold Ry at this;split at this
 .rename_i k e hu;split at this
  .rename_i κ' r ε' r' hk he;simp only[b5M,b5K] at this;obtain⟨rfl,rfl,h3,h4,hts⟩:=this;obtain⟨i,z,k1,k2,k3,k4⟩:=(hE.info he).ex;have hz:=LO (w:=w) (S:=λ _=>False) k4;refine⟨k,e,hu,?_,h3,h4,z,by simp[zeroValue,typeInfo,k1,k3],?_⟩
   .obtain⟨b,e'⟩:=r;cases κ' with
    | int q=>exact⟨Go.Maps.int_keyed (hE.int hk),λ x v h=>by
      obtain⟨h1,h2⟩:=h w (λ _=>False);simp only[List.cons.injEq,and_true] at h1;subst h1;exact⟨_,Go.Maps.keyOf_int_mk (hE.int hk) (by simpa [Lit.wf] using h2)⟩⟩
    | bool=>exact⟨Go.Maps.bool_keyed (hE.bool hk),λ x v h=>by
      have h1:=h w (λ _=>False);simp only[Ty.aL,Rd,b5J,b5W] at h1;subst h1;exact⟨_,Go.Maps.keyOf_bool_mk (hE.bool hk) _⟩⟩
    | str=>exact JC.str (hE.str hk) w
    | st s =>
     simp only[Ty.HI,b5M,b5K] at h3;obtain⟨e1,n1,n2⟩:=hE.arr hk h3.1;rw[h3.2.2] at n1 n2;obtain⟨b2,e2,n3⟩:=n2 (.int .i64) (by simp);obtain⟨i1,z1,i2,i3,_⟩:=(hE.info n3).ex;obtain⟨i4,z4,i5,i6,_⟩:=(hE.info hk).ex;have hA:Go.WideMaps.ArrKey c.P k e1 2:=⟨n1,by simp[Program.plainKey,hE.int n3],by simp[Program.cellsOf,i2,i3,Ty.size],by
      have:s.size=2:=by rw[<-aH.gm s s.zero,<-b6G (f:=TV.τ),aH.jG,h3.2.1];rfl
      simp[Program.cellsOf,i5,i6,Ty.size,this]⟩
     refine⟨Go.Maps.Keyed.of_law hA.law,λ x v h=>?_⟩;obtain⟨a,b,_,rfl,ha,hb⟩:=h;refine⟨_,Go.WideMaps.keyOf_pair hA (hE.int n3) ?_ (by simpa [Lit.wf] using (show IntKind.i64.min<=a/\a<=IntKind.i64.max from ha)) (by simpa [Lit.wf] using (show IntKind.i64.min<=b/\b<=IntKind.i64.max from hb))⟩;have:0<c.P.types.size:=by simpa [Nat.blt_eq] using hts
     exact⟨c.P.types.size - 1,by omega⟩
    | _=>cases h3
   .have hc:z.cells.toList=[z]:=by
     cases ε'<;>cases z<;>first|rfl|(cases h4;done)|(simp[yK,xu] at k4;done)
    rw[hc] at hz;exact oL.of h4 hz
  .cases this
 .cases this
theorem Jl(hE:bl c.P c.E)(hI:bf c G sl n lk a w){lk':Nat->Option av}(bS:∀ id o,lk' id=some o->lk id=some o){ev:Operand->AV}(cG:∀ x,VR c G lk w (ev x) (a.eval x))
  {o:Oper} {vc:Vc} {v:AV} {ob:Option av} (hq:Jk c.E lk' ev o=some (vc,v,ob)) (eb:vc.ok) {Q:Exit->Act->World->Prop} :
  o.wp c.P a w (xL c G sl n lk o.dst a w v ob) Q:=by
 unfold Jk at hq;split at hq;case h_1 x bh =>
  simp only[b5E,b5H] at hq;obtain⟨rfl,rfl,rfl⟩:=hq;exact bZ hI (by simp[execOp,bh]) (cG x)
 case h_2 x bh =>
  simp only[b5E,b5H] at hq;obtain⟨rfl,rfl,rfl⟩:=hq;exact bZ hI (by simp[execOp,bh]) (cG x)
 case h_3 cc x y bh =>
  split at hq
  .rename_i hc;simp only[b5E,b5H] at hq;obtain⟨rfl,rfl,rfl⟩:=hq;have h1:=cG cc;rw[hc] at h1;have h1:[a.eval cc]=[.bool true]:=h1;simp only[b5J,b5W] at h1;exact bZ hI (by simp[execOp,bh,h1,asBool]) (cG x)
  .rename_i hc;simp only[b5E,b5H] at hq;obtain⟨rfl,rfl,rfl⟩:=hq;have h1:=cG cc;rw[hc] at h1;have h1:[a.eval cc]=[.bool false]:=h1;simp only[b5J,b5W] at h1;exact bZ hI (by simp[execOp,bh,h1,asBool]) (cG y)
  .cases hq
 case h_4 T bh =>
  split at hq
  .rename_i d τ r hd hT;simp only[b5E,b5H] at hq;obtain⟨rfl,rfl,rfl⟩:=hq;obtain⟨i,z,h1,h2,h3,h4⟩:=(hE.info hT).ex;refine uY hI (x := .pointer (some ⟨w.heap.size,0,none⟩)) (w':=w.alloc (.cells z.cells T)) ?_ (hI.alloc _) ⟨d,hd,rfl⟩ ?_ ?_
   .simp[execOp,bh,Instr.alloc,zeroValue,typeInfo,h1,h3,newVar,newRow]
   .exact⟨_,z.cells.toList,T,rfl,by simpa using heap_alloc_new w _,ib h4⟩
   .intro b hb;simp only[dD,b5E] at hb;subst hb;simp
  .cases hq
 case h_5 T x bh =>
  split at hq
  .rename_i d τ r hd hT;split at hq
   .split at hq
    .rename_i y hy;simp only[b5E,b5H] at hq;obtain⟨rfl,rfl,rfl⟩:=hq;have gV:=dE.cells (zY (c:=c) (G:=G) (lk:=lk) hy (cG x));have hk:=fw w (.cells (a.eval x).cells T);have cr:(w.alloc (.cells (a.eval x).cells T)).heap.size=w.heap.size+1:=by simp
     have xF:=hI.grow (S':=λ b=>G.S b\/b=w.heap.size) hk (λ b hb=>⟨λ h=>h.elim id λ e=>by omega, .inl⟩) (λ b hb=>by
      rcases hb with hb|hb
      .have:=hI.dx b hb;omega
      .omega)
     have cJ:(execOp a.eval o).run c.P w = .ok (.value (.pointer (some ⟨w.heap.size,0,none⟩))) (w.alloc (.cells (a.eval x).cells T)):=by
      simp[execOp,bh,Instr.box,newVar,newRow]
     unfold Oper.wp;rw[cJ];refine⟨_,_,rfl,xF,?_⟩;refine⟨w.heap.size,0,(a.eval x).cells.toList,rfl, .inl (.inr rfl),?_,Rd.keep (λ _ h => .inl h) (λ b hb=>hk.block b (hI.dx b hb) λ h=>h) _ gV⟩;have:=heap_alloc_new w (.cells (a.eval x).cells T);exact Eu (p:=[]) (c:=(a.eval x).cells.toList) (r:=[]) (by simpa using this)
    .cases hq
   .split at hq
    .rename_i cs jt;simp only[b5E,b5H] at hq;obtain⟨rfl,rfl,rfl⟩:=hq;obtain⟨h1,_,_⟩:=yS jt (cG x);refine uY hI (x := .pointer (some ⟨w.heap.size,0,none⟩)) (w':=w.alloc (.cells (a.eval x).cells T)) ?_ (hI.alloc _) ⟨d,hd,rfl⟩ ?_ ?_
     .simp[execOp,bh,Instr.box,newVar,newRow]
     .exact⟨_,(a.eval x).cells.toList,T,rfl,by simpa using heap_alloc_new w _,h1.imp λ u y _ hy=>hI.b0L (fw w _) hy⟩
     .intro b hb;simp only[dD,b5E] at hb;subst hb;simp
    .cases hq
  .cases hq
 case h_6 T parts bh =>
  split at hq
  .rename_i s r hT;split at hq
   .rename_i cs jt;simp only[b5E,b5H] at hq;obtain⟨rfl,rfl,rfl⟩:=hq;obtain⟨i,z,h1,h2,h3,h4⟩:=(hE.info hT).ex;cases a1F:s.arr with
    | true =>
     obtain⟨e',h5,gW⟩:=hE.arr hT a1F;have VX:∀ i t,s.c9[i]?=some t->(λ j=>some (j * c.P.cellsOf e',c.P.cellsOf e')) i=some (s.dL i,t.size):=by
      intro i t hi;obtain⟨e1,k1,⟨b',e2,k2⟩,k3⟩:=hE.Vb hT a1F hi;rw[h5] at k1;simp only[b5E,b9R,b6t] at k1;subst k1;obtain⟨i',_,kg,cr,_⟩:=(hE.info k2).ex;simp[k3,Program.cellsOf,kg,cr]
     obtain⟨l',h8,h9⟩:=zJ (c:=c) (G:=G) (lk:=lk) (w:=w) VX jt (aM.Bc cG _) (ib h4);have hb:c.P.built T ((parts.map λ (i,x)=>(i,a.eval x)).toList)=some l'.toArray:=by
      unfold Program.built;rw[h1,h5];have E0:0<s.c9.length:=by
       revert a1F;cases s<;>first|(intro h;cases h;done)|(intro _;decide)
      obtain⟨b2,e2,k2⟩:=gW _ (b7a E0);obtain⟨i',_,kg,_,_⟩:=(hE.info k2).ex;simp only[h3,kg];rw[<-h8];have:c.P.cellsOf e'=i'.size:=by simp[Program.cellsOf,kg]
      rw[this];congr 1;simp
     refine bZ hI (x := .agg l'.toArray) ?_ ⟨l',rfl,h9⟩;simp[execOp,bh,run_build w T _ _ hb]
    | false =>
    obtain⟨fs,h5,h6,h7⟩:=hE.st hT a1F;have Q2:fs.toList.mapM (λ f=>(c.P.info? f.type).map λ i=>(f.offset,i.size))=some (fs.toList.map λ f=>(f.offset,c.P.cellsOf f.type)):=by
     have:∀ l:List Field,(∀ f∈l,∃ i,c.P.info? f.type=some i)->l.mapM (λ f=>(c.P.info? f.type).map λ i=>(f.offset,i.size))=some (l.map λ f=>(f.offset,c.P.cellsOf f.type)):=by
      intro l;induction l with
      | nil=>intro _;rfl
      | cons f l ih =>
       intro hl;obtain⟨i,hi⟩:=hl f (by simp);simp[b8u,hi,ih λ f hf=>hl f (by simp[hf]),Program.cellsOf]
     refine this _ λ f hf=>?_;obtain⟨j,hj,hjf⟩:=List.getElem_of_mem hf;obtain⟨t,b,e,_,k2,_⟩:=h7 j f (by rw[Array.getElem?_eq_getElem (by simpa using hj)];simpa using hjf);obtain⟨i,_,hi,_⟩:=(hE.info k2).ex;exact⟨i,hi⟩
    have VX:∀ i t,s.c9[i]?=some t->(fs.toList.map λ f=>(f.offset,c.P.cellsOf f.type)).toArray[i]?=some (s.dL i,t.size):=by
     intro i t hi;have bp:i<fs.size:=by have:=(b6o.1 hi).1;omega
     obtain⟨t',b,e,k1,k2,k3⟩:=h7 i fs[i] (b6O bp);rw[hi] at k1;simp only[b5E] at k1;subst k1;obtain⟨i',_,kg,cr,_⟩:=(hE.info k2).ex;simp[bp,k3,Program.cellsOf,kg,cr]
    obtain⟨l',h8,h9⟩:=zJ (c:=c) (G:=G) (lk:=lk) (w:=w) VX jt (aM.Bc cG _) (ib h4);have hb:c.P.built T ((parts.map λ (i,x)=>(i,a.eval x)).toList)=some l'.toArray:=by
     unfold Program.built;rw[h1,h5];simp only[h3,Q2];rw[<-h8];congr 1;simp
    refine bZ hI (x := .agg l'.toArray) ?_ ⟨l',rfl,h9⟩;simp[execOp,bh,run_build w T _ _ hb]
   .cases hq
  .cases hq
 case h_7 T len parts bh =>
  split at hq
  .rename_i d τ b e hd hT;split at hq
   .rename_i hlen;split at hq
    .rename_i xs kE;simp only[b5M] at hlen;have ON:=b5G hlen.1;have hl2:=b6R hlen.2;subst ON;obtain⟨h1,⟨b',e',h2⟩,i,z,h3,h4,h5,h6,h7⟩:=hE.slice hT;have E0:=τ.size_pos;have KJ:τ.size<=100:=Ty.size_le τ;have b3H:parts.size * τ.size<=16777216:=b7g (Nat.mul_le_mul hl2 KJ) (by decide);obtain⟨r,h8,h9⟩:=Hu (c:=c) (G:=G) (lk:=lk) (w:=w) (τ:=τ) (place:=λ i=>some (i * τ.size,τ.size)) (λ _=>rfl) (l:=((Array.range (parts.size * τ.size)).map (λ j=>((if parts.size * τ.size=0 then #[] else z.cells:Array Value)[j % (if parts.size * τ.size=0 then #[] else z.cells:Array Value).size]!))).toList) kE (aM.Bc cG _) (by simp);have sd:=C5 kE;simp only[b6G,b6M] at sd;have cr:∀ d∈xs.map τ.aL,d.size=τ.size:=by
      intro d hd;obtain⟨y,_,rfl⟩:=b5N.1 hd;exact Ty.cA τ y
     have hrl:=dP.length _ h9 cr;simp only[b6G,sd] at hrl;simp only[b8T,b7K,b6B,b6P] at h8;have cJ:(execOp a.eval o).run c.P w = .ok (.value (.slice (some ⟨w.heap.size,0,none⟩) parts.size parts.size)) (w.alloc (.cells r.toArray e)):=by
      have e2:(parts.map λ (i,x)=>(i,a.eval x)).toList=parts.toList.map λ p=>(p.1,a.eval p.2):=by simp
      have hU:¬ (parts.size * τ.size>2 ^ 24):=by omega
      simp only[execOp,bh,Instr.buildSlice,b6p,b6F h1,b6i,hE.sizeOf h2,b5I hU,b6q];by_cases h0:parts.size * τ.size=0
      .simp only[h0,b7D,b6p,b6q,b6i,e2] at h8 ⊢;rw[h8];simp[newRow]
      .simp only[h0,b8j,b6p,zeroValue,typeInfo,run_program,b6i,h3,h6,b6q,e2] at h8 ⊢;rw[h8];simp[newRow]
     have ho:(w.alloc (.cells r.toArray e)).ownsRow 0 e τ.size (.slice (some ⟨w.heap.size,0,none⟩) parts.size parts.size) xs.length r:=by
      rw[sd];have:=World.ownsRow_lit (base:=0) (e:=e) (size:=τ.size) w r.toArray parts.size (Nat.zero_le _) (by simp only[maxLen];omega) (by simpa using hrl);simpa using this
     have gV:=dP.keep (λ _ h=>h) (λ b hb=>hI.WK (fw w (.cells r.toArray e)) b (.inl hb)) _ h9;have im:∀ b,dD (.slice (some ⟨w.heap.size,0,none⟩) parts.size parts.size)=some b->w.heap.size<=b/\b<(w.alloc (.cells r.toArray e)).heap.size:=by
      intro b hb;simp only[dD,b5E] at hb;subst hb;simp
     split at hq
     .simp only[b5E,b5H] at hq;obtain⟨rfl,rfl,rfl⟩:=hq;exact a2G hI cJ (fw w _) ho gV (by omega) im
     .simp only[b5E,b5H] at hq;obtain⟨rfl,rfl,rfl⟩:=hq;exact uY hI cJ (hI.alloc _) ⟨d,hd,rfl⟩ ⟨r,ho,gV,by omega⟩ im
    .cases hq
   .cases hq
  .cases hq
 case h_8 T ad bh =>
  split at hq
  .rename_i τ r hT;split at hq
   .rename_i u hu;simp only[b5E,b5H] at hq;obtain⟨rfl,rfl,rfl⟩:=hq;obtain⟨b,o',cs,h1,h2,h3,h4⟩:=pt hI.aK bS hu (cG ad);refine bZ hI ?_ h4;simp only[execOp,bh,h1,b6p,jB hE hT h2 h3,b6i,b6q]
   .cases hq
  .cases hq
 case h_9 x bh =>
  have key:∀ u,ev x=u->(∃ b o,a.eval x = .pointer (some ⟨b,o,none⟩))->vc = .none->v=u->ob=none->o.wp c.P a w (xL c G sl n lk o.dst a w v ob) Q:=by
   rintro u hu ⟨b,o',hx⟩ _ rfl rfl;refine bZ hI (x:=a.eval x) ?_ (hu ▸ cG x);simp only[execOp,bh,hx,b6q]
  have hx:=cG x;split at hq
  .rename_i u hu;simp only[b5E,b5H] at hq;rw[hu] at hx;obtain⟨b,o',cs,h1,_⟩:=hx;exact key _ hu ⟨b,o',h1⟩ hq.1.symm hq.2.1.symm hq.2.2.symm
  .rename_i id off hu;simp only[b5E,b5H] at hq;rw[hu] at hx;obtain⟨b,_,h1,_⟩:=hx;exact key _ hu ⟨b,off,h1⟩ hq.1.symm hq.2.1.symm hq.2.2.symm
  .rename_i id i off hu;simp only[b5E,b5H] at hq;rw[hu] at hx;obtain⟨b,_,_,_,_,_,_,_,_,h1⟩:=hx;exact key _ hu ⟨b,_,h1⟩ hq.1.symm hq.2.1.symm hq.2.2.symm
  .cases hq
 case h_10 T x i bh =>
  split at hq
  .rename_i s r hT;split at hq
   .cases hq
   .rename_i ha;split at hq
    .rename_i u hu;simp only[b5E,b5H] at hq;obtain⟨rfl,rfl,rfl⟩:=hq;obtain⟨b,o',h1,bp,h2⟩:=rq hu (cG x);refine bZ hI (x := .pointer (some ⟨b,o'+s.dL i,none⟩)) ?_ h2;simp only[execOp,bh,h1,b6p,CF hE hT ha bp,b6i,b6q]
    .cases hq
  .cases hq
 case h_11 T x i bh =>
  split at hq
  .rename_i s r hT;split at hq
   .cases hq
   .rename_i ha;split at hq
    .rename_i u hu;simp only[b5E,b5H] at hq;obtain⟨rfl,rfl,rfl⟩:=hq;obtain⟨cs,τ,h1,eN,h5,h3⟩:=Kn hu (cG x);refine bZ hI (x:=A2 τ ((cs.drop (s.dL i)).take τ.size)) ?_ h3;simp only[execOp,bh,h1,b6p,a0I hE hT ha eN h5,b6i,b6q]
    .cases hq
  .cases hq
 case h_12 T x ix bh =>
  split at hq
  .rename_i τ r hT;split at hq
   .rename_i k i hi;have hJ:=cG ix;rw[hi] at hJ;obtain⟨hJ,_⟩:=hJ;simp only[b5J,b5W] at hJ;have hx:=cG x;split at hq
    .rename_i u hu;rw[hu] at hx;split at hq
     .rename_i xs kE;have e:=TV.aN kE;subst e;simp only[b5E,b5H] at hq;obtain⟨rfl,rfl,rfl⟩:=hq;obtain⟨h0,h1⟩:=eb;obtain⟨ad,cap,h2,h3,h4,h5⟩:=jC hx;rcases h5 with h5|⟨b,o',h5,h6,h7⟩
      .subst h5;simp only[b6d] at h1;omega
      .subst h5;have bp:i.toNat<xs.length:=by omega
       obtain⟨cs,m1,m2,m3⟩:=dh.at_ (n:=τ.size) _ b o' h7 (by
        intro d hd;obtain⟨y,_,rfl⟩:=b5N.1 hd;exact Ty.cA τ y) i.toNat (τ.aL (xs.getD i.toNat τ.zero)) (by simp[List.getD,bp])
       refine bZ hI (x := .pointer (some ⟨b,o'+i.toNat * τ.size,none⟩)) ?_ ⟨b,_,cs,rfl, .inl h6,m3,m2⟩;simp only[execOp,bh,h2,hJ,b6p,pG hE hT h0 h1,b6i,b6q]
     .cases hq
    .rename_i id hu;rw[hu] at hx;split at hq
     .rename_i e' aU xs hl;split at hq
      .rename_i eN;have eN:=b6n eN;subst eN;simp only[b5E,b5H] at hq;obtain⟨rfl,rfl,rfl⟩:=hq;obtain⟨h0,h1⟩:=eb;obtain⟨h2,_,_⟩:=hx;have pd:=bS _ _ hl;obtain⟨l,m1,_,_⟩:=hI.aK _ _ pd;have bp:i.toNat<xs.length:=by omega
       rcases m1.2 with ⟨_,hn⟩|⟨g,cap,cur,hv,_⟩
       .omega
       .refine bZ hI (x := .pointer (some ⟨g,0+i.toNat * aU.size,none⟩)) ?_ ⟨g,_,cap,e',aU,xs,hv,pd,bp,by simp⟩;simp only[execOp,bh,h2,hv,hJ,b6p,pG hE hT h0 h1,b6i,b6q]
      .cases hq
     .cases hq
    .cases hq
   .cases hq
  .rename_i n r hT;split at hq
   .rename_i k i ha hi;have hJ:=cG ix;rw[hi] at hJ;obtain⟨hJ,_⟩:=hJ;simp only[b5J,b5W] at hJ;split at hq
    .rename_i u hu;simp only[b5E,b5H] at hq;obtain⟨rfl,rfl,rfl⟩:=hq;obtain⟨b,o',h1,bp,h2⟩:=rq hu (cG x);refine bZ hI (x := .pointer (some ⟨b,o'+n.dL i,none⟩)) ?_ h2;simp only[execOp,bh,h1,hJ,b6p,R5 hE hT ha bp,b6i,b6q]
    .cases hq
   .cases hq
  .cases hq
 case h_13 T x ix bh =>
  split at hq
  .rename_i r hT;split at hq
   .rename_i k i hi;have hJ:=cG ix;rw[hi] at hJ;obtain⟨hJ,_⟩:=hJ;simp only[b5J,b5W] at hJ;have hx:=cG x;split at hq
    .rename_i xs hu;rw[hu] at hx;simp only[Option.some.injEq,Prod.mk.injEq] at hq;obtain⟨rfl,rfl,rfl⟩:=hq;obtain⟨s,h1,h2,h3⟩:=hx;simp only[List.cons.injEq,and_true] at h1;subst h2;have cr:s.data.toList.length=s.size:=Array.length_toList;have eb:aJ i s.data.toList.length:=eb;unfold aJ at eb;rw[cr] at eb;have bp:Int.toNat i<s.size:=by omega
     have he:s.data.toList.getD (Int.toNat i) 0=s[Int.toNat i]'bp:=by
      have h5:Int.toNat i<s.data.size:=bp;rw[List.getD_eq_getElem?_getD,List.getElem?_eq_getElem (by simpa using h5)];rfl
     have hr:(execOp a.eval o).run c.P w = .ok (.value (.int .u8 (s[Int.toNat i]'bp).toNat)) w:=by
      simp only[execOp,bh,h1,hJ,b6p,run_index_string w T s k i (hE.str hT)];rw[dif_pos eb];rfl
     refine bZ hI hr ⟨by rw[he],?_⟩;have:=(s.data.toList.getD (Int.toNat i) 0).toNat_lt;exact⟨c0b _,by simp only[IntKind.max,IntKind.signed,IntKind.bits,b5O,b8j];omega⟩
    .cases hq
   .cases hq
  .rename_i n r hT;split at hq
   .rename_i k i ha hi;have hJ:=cG ix;rw[hi] at hJ;obtain⟨hJ,_⟩:=hJ;simp only[b5J,b5W] at hJ;split at hq
    .rename_i u hu;simp only[b5E,b5H] at hq;obtain⟨rfl,rfl,rfl⟩:=hq;obtain⟨cs,τ,h1,eN,h5,h3⟩:=Kn hu (cG x);refine bZ hI (x:=A2 τ ((cs.drop (n.dL i)).take τ.size)) ?_ h3;simp only[execOp,bh,h1,hJ,b6p,a5L hE hT ha eN h5,b6i,b6q]
    .cases hq
   .cases hq
  .cases hq
 case h_14 op T x y yt bh =>
  split at hq
  .rename_i p u hu;simp only[b5E,b5H] at hq;obtain⟨rfl,rfl,rfl⟩:=hq;obtain⟨z,h1,h2⟩:=Yo hE x y hu eb (cG x) (cG y);refine bZ hI ?_ h2;simp only[execOp,bh];rw[b6p,h1];rfl
  .split at hq
   .rename_i p u hu;simp only[b5E,b5H] at hq;obtain⟨rfl,rfl,rfl⟩:=hq;obtain⟨z,h1,h2⟩:=Zv hE x y hu eb (cG x) (cG y);refine bZ hI ?_ h2;simp only[execOp,bh];rw[b6p,h1];rfl
   .cases hq
 case h_15 op xt x bh =>
  split at hq
  .rename_i b hb;simp only[b5E,b5H] at hq;obtain⟨rfl,rfl,rfl⟩:=hq;have hx:=cG x;rw[hb] at hx;have hx:[a.eval x]=[.bool b]:=hx;simp only[b5J,b5W] at hx;exact bZ hI (x := .bool !b) (by simp[execOp,bh,hx,Op.unary]) rfl
  .rename_i k i hb;simp only[b5E,b5H] at hq;obtain⟨rfl,rfl,rfl⟩:=hq;have hx:=cG x;rw[hb] at hx;obtain⟨hx,_⟩:=hx;simp only[b5J,b5W] at hx;have hr:=dV eb;have h0:(0:Int) - i = -i:=Int.zero_sub _;exact bZ hI (x := .int k (-i)) (by simp[execOp,bh,hx,Op.unary,Op.intArith,h0,tc hr]) ⟨rfl,hr⟩
  .cases hq
 case h_16 src dst x bh =>
  split at hq
  .rename_i k1 r1 k2 r2 hs hd;split at hq
   .rename_i k3 i zt;simp only[b5E,b5H] at hq;obtain⟨rfl,rfl,rfl⟩:=hq;have hx:=cG x;rw[zt] at hx;obtain⟨hx,_⟩:=hx;simp only[b5J,b5W] at hx;have hr:=dV eb;refine bZ hI (x := .int k2 i) ?_ ⟨rfl,hr⟩;simp[execOp,bh,hx,convert,b6F (hE.int hs),b6F (hE.int hd),Conv.intToInt,tc hr]
   .cases hq
  .cases hq
 case h_18 t i bh =>
  split at hq
  .rename_i vs ht;split at hq
   .rename_i u hu;simp only[b5E,b5H] at hq;obtain⟨rfl,rfl,rfl⟩:=hq;have hx:=cG t;rw[ht] at hx;obtain⟨l,h1,h2⟩:=hx;obtain⟨z,h3,h4⟩:=h2.at_ i u hu;refine bZ hI (x:=z) ?_ ?_
    .simp[execOp,bh,Instr.extract,h1,h3]
    .cases u<;>first|exact h4|exact h4.elim|trivial
   .cases hq
  .cases hq
 case h_19 T l cc bh =>
  split at hq
  .rename_i d τ b e hd hT;split at hq
   .rename_i m m' hm hm';simp only[b5E,b5H] at hq;obtain⟨rfl,rfl,rfl⟩:=hq;have hl:=cG l;have hc:=cG cc;rw[hm] at hl;rw[hm'] at hc;obtain⟨hl,_⟩:=hl;obtain⟨hc,_⟩:=hc;simp only[b5J,b5W] at hl hc;obtain⟨cap,cs,h1,h2⟩:=a3a (c:=c) (G:=G) (lk:=lk) hE hT eb w (λ w' hk b hb=>hI.WK hk b (.inl hb));refine uY hI ?_ (hI.alloc _) ⟨d,hd,rfl⟩ h2 ?_
    .simp only[execOp,bh,hl,hc,b6p,h1,b6i,b6q]
    .intro b hb;simp only[dD,b5E] at hb;subst hb;simp
   .cases hq
  .cases hq
 case h_17 T x lo hi mx bh =>
  split at hq
  .rename_i τ r hT;have hx:=cG x;split at hq
   .rename_i u hu;rw[hu] at hx;split at hq
    .rename_i xs kE;have e:=TV.aN kE;subst e;split at hq
     .rename_i l h hl hh;simp only[b5E,b5H] at hq;obtain⟨rfl,rfl,rfl⟩:=hq;obtain⟨ad,cap,h2,h3,h4,h5⟩:=jC hx;obtain⟨k1,⟨b',e',k2⟩,_⟩:=hE.slice hT;have hb:=NP cG true hl hh eb h3 c.P w;obtain⟨v0,v1,v2⟩:=eb;have cJ:(execOp a.eval o).run c.P w = .ok (.value (.slice (if cap=l.toNat then ad else ad.map (·.add (l.toNat * τ.size))) (h.toNat - l.toNat) (cap - l.toNat))) w:=by
       simp only[execOp,bh,h2,Instr.sliceAt,b6p,b6F k1,b6i,Instr.slice,b8V,hb,hE.sizeOf k2,b6q]
      refine bZ hI cJ ?_;have hlen:((xs.take h.toNat).drop l.toNat).length=h.toNat - l.toNat:=by
       rw[b7e,b6T];omega
      refine a3m hlen (by omega) ?_ (by omega) ?_
      .have:=hx;obtain⟨ad',TH,m1,m2,m3,_⟩:=this;rw[h2] at m1;simp only[b5J,b7A,b5W] at m1;obtain⟨_,_,rfl⟩:=m1;omega
      .rcases b6E l.toNat h.toNat with bp|VT
       .right;rcases h5 with h5|⟨b,o',rfl,h6,h7⟩
        .subst h5;simp only[b6d] at v2;omega
        .refine⟨b,o'+l.toNat * τ.size,?_,h6,?_⟩
         .rw[b5I (by omega)];simp[b8i]
         .rw[List.map_drop,List.map_take];refine dh.a4i _ _ _ _ (dh.a6j _ _ _ _ h7) ?_;intro d hd;obtain⟨y,_,rfl⟩:=b5N.1 (List.mem_of_mem_take hd);exact Ty.cA τ y
       .left;exact b6S (by omega)
     .cases hq
    .cases hq
   .cases hq
  .rename_i r hT;have hx:=cG x;split at hq
   .rename_i xs hu;rw[hu] at hx;split at hq
    .rename_i l h hl hh;simp only[b5E,b5H] at hq;obtain⟨rfl,rfl,rfl⟩:=hq;obtain⟨s,h1,h2,h3⟩:=hx;simp only[b5J,b5W] at h1;subst h2;have cr:s.data.toList.length=s.size:=b6M;rw[cr] at eb hh;have hb:=NP cG false hl hh eb (b6k _) c.P w;obtain⟨v0,v1,v2⟩:=eb;refine bZ hI (x := .string (s.extract l.toNat h.toNat)) ?_ ⟨_,rfl,?_,?_⟩
     .have hU:¬ ((none:Option Value).isSome=true):=by simp
      simp only[execOp,bh,h1,Instr.sliceAt,b6p,b6F (hE.str hT),b6i,Instr.slice,b8V,b5I hU,hb,b6q]
     .rw[Lib.extract_data,List.drop_take]
     .have:(s.extract l.toNat h.toNat).size<=s.size:=by
       rw[ByteArray.size_extract];omega
      omega
    .cases hq
   .cases hq
  .cases hq
 case h_20 cl bh =>
  have dO:=aM.jV cG cl.args.toList;split at hq
  .rename_i fX;split at hq
   .rename_i T v1 QS zq;rw[zq] at dO;match kE:cl.args.toList.map a.eval,dO with
    | [x],dO =>
     have hx:=dO.1;have KB:cl.argTypes = #[T]:=by rw[<-b6P (xs:=cl.argTypes),QS]
     have E4:cl.args.map a.eval = #[x]:=by rw[<-b6P (xs:=cl.args.map a.eval),b7S,kE]
     have QX:(execOp a.eval o)=(do let d <-resolve a.eval cl o.type;invoke d.target d.args):=by simp[execOp,bh]
     have KG:(execOp a.eval o).run c.P w=((Builtin.len_ #[T] o.type #[x]).run c.P w).andThen λ v w => .ok (.value v) w:=by
      rw[QX];simp[resolve,fX,invoke,builtin,KB,E4]
     split at hq
     .rename_i t r hT;obtain⟨k1,_,_⟩:=hE.slice hT;have SU:c.P.elem T=r.2:=by simp[Program.elem,k1]
      have cJ:∀ ad len cap,x = .slice ad len cap->(execOp a.eval o).run c.P w = .ok (.value (.int .i64 len)) w:=by
       intro ad len cap hxx;rw[KG,hxx,run_len_slice w T o.type ad len cap (by rw[SU];exact k1)];rfl
      have fv:∀ m:Nat,m<=140737488355328->IntKind.i64.min<=(m:Int)/\(m:Int)<=IntKind.i64.max:=λ m hm=>dV (k := .i64) ⟨by omega,by omega⟩;split at hq
      .simp only[b5E,b5H] at hq;obtain⟨rfl,rfl,rfl⟩:=hq;exact bZ hI (cJ _ _ _ hx) ⟨rfl,fv 0 (by omega)⟩
      .rename_i t' xs;simp only[b5E,b5H] at hq;obtain⟨rfl,rfl,rfl⟩:=hq;obtain⟨ad,cap,h2,h3,h4,h5⟩:=jC hx;exact bZ hI (cJ _ _ _ h2) ⟨rfl,fv _ h4⟩
      .rename_i id;split at hq
       .rename_i e' aU xs hl;simp only[b5E,b5H] at hq;obtain⟨rfl,rfl,rfl⟩:=hq;obtain⟨h2,_,_⟩:=hx;have pd:=bS _ _ hl;obtain⟨ad,cap,h3,_,h4,_⟩:=jC (t:=aU) (a2h (hI.aK _ _ pd) pd);exact bZ hI (cJ _ _ _ (h2.trans h3)) ⟨rfl,fv _ h4⟩
       .cases hq
      .cases hq
     .rename_i r hT;split at hq
      .rename_i xs;simp only[b5E,b5H] at hq;obtain⟨rfl,rfl,rfl⟩:=hq;obtain⟨s,h1,h2,h3⟩:=hx;simp only[b5J,b5W] at h1;subst h2;have cr:s.data.toList.length=s.size:=b6M;have fv:ca .i64 (s.size:Int):=⟨by omega,by omega⟩;refine bZ hI (x := .int .i64 s.size) ?_ ⟨by rw[cr],by rw[cr];exact dV fv⟩;rw[KG,h1,run_len_string w T o.type s (hE.str hT)];rfl
      .cases hq
     .rename_i hT;split at hq
      .rename_i id a9S hm _;split at hq
       .rename_i m hl;simp only[b5E,b5H] at hq;obtain⟨rfl,rfl,rfl⟩:=hq;obtain⟨b,es,clock,k1,k2,k3⟩:=hI.aK _ _ (bS _ _ hl);obtain⟨kT,eT,u1,_⟩:=hE.map (κ:=a9S.1) (ε:=a9S.2) hm w;have SU:c.P.underlying T=some (.map (c.P.mapKeyOf T) (c.P.mapElemOf T)):=by simp[Program.mapKeyOf,Program.mapElemOf,u1]
        have hsm:=k3.small;have fv:ca .i64 (m.n:Int):=⟨by omega,by omega⟩;refine bZ hI (x := .int .i64 m.n) ?_ ⟨rfl,dV fv⟩;rw[KG,hx.1,k1,run_len_map w T o.type b es clock SU k2,k3.len];rfl
       .cases hq
      .cases hq
     .cases hq
   .cases hq
  .rename_i fX;split at hq
   .rename_i d T T' hd QS;split at hq
    .rename_i τ b e QR hT;split at hq
     .rename_i y zq;split at hq
      .rename_i ys MC;simp only[b5E,b5H] at hq;obtain⟨rfl,rfl,rfl⟩:=hq;have QR:=b5G QR;subst QR;rw[zq] at dO;match kE:cl.args.toList.map a.eval,dO with
       | [x,z],dO =>
        obtain⟨hx,hz,_⟩:=dO;have hx:x = .slice none 0 0:=hx;subst hx;have KB:cl.argTypes = #[T,T]:=by rw[<-b6P (xs:=cl.argTypes),QS]
        have E4:cl.args.map a.eval = #[.slice none 0 0,z]:=by rw[<-b6P (xs:=cl.args.map a.eval),b7S,kE]
        have KG:(execOp a.eval o).run c.P w=((Builtin.append_ #[T,T] o.type #[.slice none 0 0,z]).run c.P w).andThen λ v w => .ok (.value v) w:=by
         simp[execOp,bh,resolve,fX,invoke,builtin,KB,E4]
        have hzc:C1 c G lk w y z:=by
         refine hz.UP ?_;cases y with
         | aO u =>
          have e:=TV.aN MC;subst e;rfl
         | nil=>rfl
         | row i=>rfl
         | aC i=>rfl
         | _=>cases MC
        have gV:=a1h hI.aK (FM bS) Yp MC hzc;obtain⟨v',w',news,m1,m2,m3,m4,m5,m6⟩:=NL (w:=w) (base:=w.heap.size) hE hT (World.ownsRow_nil w _ e τ.size) (Nat.le_refl _) gV (n:=0) (by rw[Nat.zero_add];exact eb) o.type;have hk:bX (λ _=>False) w w':=⟨m3.os,m3.tape,m3.output,m3.size,λ b hb _=>m3.block b hb (by simp[Value.ownBlock])⟩;simp only[Nat.zero_add,List.nil_append] at m2;refine uY hI (x:=v') (w':=w') ?_ (hI.grow (S':=G.S) hk (λ _ _=>Iff.rfl) (λ b hb=>Nat.lt_of_lt_of_le (hI.dx b hb) hk.size)) ⟨d,hd,rfl⟩ ⟨news,?_,?_,by simpa using m6⟩ ?_
        .rw[KG,m1];rfl
        .exact⟨m2.1,m2.2.imp id λ ⟨g,cap,cur,q1,q2,q3⟩=>⟨g,cap,cur,q1,b6L _,q3⟩⟩
        .exact dP.keep (λ _ h=>h) (λ b hb=>hI.WK hk b (.inl hb)) _ m5
        .intro b hb;have OO:=(qW (w:=w') (v:=v') (e:=e) ⟨m2.1,m2.2.imp id λ ⟨g,cap,cur,q1,q2,q3⟩=>⟨g,cap,cur,q1,b6L _,q3⟩⟩);have cw:v'.ownBlock=some b:=OO.trans hb;exact m2.lt b cw
      .cases hq
     .cases hq
    .cases hq
   .cases hq
  .rename_i fX;split at hq
   .rename_i k m k' n zq;split at hq
    .rename_i hk;have hk:=b6n hk;subst hk;simp only[b5E,b5H] at hq;obtain⟨rfl,rfl,rfl⟩:=hq;rw[zq] at dO;match kE:cl.args.toList.map a.eval,dO with
     | [x,z],dO =>
      obtain⟨⟨hx,hx2⟩,⟨hz,hz2⟩,_⟩:=dO;simp only[b5J,b5W] at hx hz;subst hx hz;have E4:cl.args.map a.eval = #[.int k' m, .int k' n]:=by rw[<-b6P (xs:=cl.args.map a.eval),b7S,kE]
      refine bZ hI (x := .int k' (max m n)) ?_ ⟨rfl,?_⟩
      .have hm:=a8h m n;simp[execOp,bh,resolve,fX,invoke,builtin,E4,Builtin.max_,Builtin.max2];exact hm
      .exact a8i _ _ _ _ hx2 hz2
    .cases hq
   .cases hq
  .rename_i f fX;exact NR hE hI bS hq eb dO (λ qD=>gJ bh fX rfl qD)
  .rename_i t fX;split at hq
   .rename_i f hf;have hx:=cG (.tmp t);rw[hf] at hx;exact NR hE hI bS hq eb dO (λ qD=>gJ bh fX hx qD)
   .rename_i f cs hf;have hx:=cG (.tmp t);rw[hf] at hx;exact Es hE hI bS hq eb dO bh fX hx
   .rename_i v hf;have hx:=cG (.tmp t);rw[hf] at hx;exact Es hE hI bS hq eb dO bh fX hx
   .cases hq
  .cases hq
 case h_21 T bh =>
  split at hq
  .rename_i d κ ε hd hT;simp only[b5E,b5H] at hq;obtain⟨rfl,rfl,rfl⟩:=hq;obtain⟨kT,eT,u1,u2,u3,u4,_⟩:=hE.map hT w;refine uY hI (x := .map (some w.heap.size)) (w':=w.alloc (.map #[] 0)) ?_ (hI.alloc _) ⟨d,hd,rfl⟩ ⟨_,_,_,rfl,(c0d w _).1,xM.empty u3 u4⟩ ?_
   .simp[execOp,bh,Instr.makeMap]
   .intro b hb;simp only[dD,b5E] at hb;subst hb;simp
  .cases hq
 case h_22 T x ix ok bh =>
  split at hq
  .rename_i κ ε hT;split at hq
   .rename_i id k hx hJ;split at hq
    .rename_i m hl;split at hq
     .rename_i f n hm;have e1:=MV.aN hm;subst e1;obtain⟨kT,eT,u1,u2,u3,u4,z,hz,hzr⟩:=hE.map hT w;have zt:=cG x;rw[hx] at zt;obtain⟨b,es,clock,k1,k2,k3⟩:=hI.aK _ _ (bS _ _ hl);have hkr:Bu κ k (a.eval ix):=Bu.of u3 (zY hJ (cG ix));obtain⟨y,y1,y2⟩:=k3.ai (P:=c.P) u1 u2 k2 hz hzr hkr ok;have cJ:(execOp a.eval o).run c.P w = .ok (.value (if ok then .tuple #[y, .bool (f k).isSome] else y)) w:=by
       have hxx:a.eval x = .map (some b):=zt.1.trans k1;have:(execOp a.eval o)=(do let r <-Instr.lookup T (a.eval x) (a.eval ix) ok;pure (.value r)):=by simp[execOp,bh]
       rw[this,hxx];simp[y2,Result.andThen]
      have hyv:dE w G.S ⟨ε,(f k).getD ε.zero⟩ y:=by
       have:=y1 w G.S;cases ε with
       | int q=>exact this
       | bool=>exact this
       | str=>exact this
       | _=>cases u4
      cases ok with
      | true =>
       simp only[b5E,b5H] at hq;obtain⟨rfl,rfl,rfl⟩:=hq;exact bZ hI cJ ⟨[y, .bool (f k).isSome],rfl,hyv,rfl,af⟩
      | false =>
       simp only[b5E,b5H] at hq;obtain⟨rfl,rfl,rfl⟩:=hq;exact bZ hI cJ hyv
     .cases hq
    .cases hq
   .cases hq
  .cases hq
 case h_23 fn first captured bh =>
  split at hq
  .rename_i f a7U EU;have jt:=aM.jV cG captured.toList;have cJ:(execOp a.eval o).run c.P w = .ok (.value (.func (.func f) #[] (captured.toList.map a.eval).toArray)) w:=by
    have hf:first = #[]:=by rw[<-b6P (xs:=first),a7U]
    simp[execOp,bh,Instr.makeFunc,hf];apply b9o;simp
   split at hq
   .rename_i p9;simp only[b5E,b5H] at hq;obtain⟨rfl,rfl,rfl⟩:=hq;rw[p9] at jt;match hl:captured.toList.map a.eval,jt with
    | [],_ =>
     rw[hl] at cJ;exact bZ hI cJ rfl
   .simp only[b5E,b5H] at hq;obtain⟨rfl,rfl,rfl⟩:=hq;exact bZ hI cJ ⟨_,rfl,jt.imp λ u y hu hy=>hy.Y4 (b6y.1 EU u hu)⟩
  .cases hq
 case h_24=>cases hq
end
end Go.Proofs.YtlpndogmpcolnaaGreatDoor

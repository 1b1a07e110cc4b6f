/- VmTypes, VmCore, VmRead, VmOwn, VmMap, VmInv, VmEnv, VmVals, VmRuns, VmMake, VmOps. -/
import Derived.KernelRfl
import GoSem.Claim
import Derived.Orders
import Derived.Laws.AppendOwn
import Derived.Laws.OwnMore
import Derived.Below
import Derived.MapKept
import Derived.Maps.Keyed
import Derived.WideKeyPair
import Derived.Calls
import Derived.Laws.Cells
import Derived.Laws.Slices
import Derived.Laws.Strings
import Derived.Maps.AppendAt
import Derived.IntWalk
import Derived.Laws.Small
import Derived.Laws.CopyRow
import Derived.Lib.Strings
set_option linter.all false
namespace Go.Proofs.YtofnjfpeimhifaaGreatDoor
def b1X:=@Option.bind_eq_some_iff
def b0J:=@Option.some.injEq
def b1p:=@List.map_cons
def b2k:=@List.map_nil
def b0O:=@List.cons.injEq
def b1i:=@and_true
def b3u:=@Go.World.cell?_of_block
def b1Q:=@Nat.add_mul
def b0Y:=@List.length_append
def b0W:=@List.length_cons
def b1R:=@List.getElem?_append_left
def b1h:=@List.getElem?_eq_some_iff
def b1w:=@Nat.lt_or_ge
def b2H:=@List.getElem?_append_right
def b3j:=@Nat.add_sub_cancel_left
def b0U:=@Bool.and_eq_true
def b4f:=@List.drop_drop
def b3d:=@List.drop_left
def b4w:=@List.take_append
def b1I:=@List.take_of_length_le
def b3V:=@Nat.zero_mul
def b4g:=@List.drop_zero
def b2S:=@List.take_left
def b2T:=@List.take_zero
def b1v:=@List.nil_append
def b2l:=@Nat.zero_add
def b2F:=@Iff.rfl
def b4K:=@Go.Value.agg.injEq
def b2o:=@true_and
def b1G:=@Nat.zero_le
def b1y:=@List.mem_of_getElem?
def b1A:=@Go.run_underlying
def b3p:=@Go.MapKept.run_getObj_map
def b3L:=@List.getElem?_cons_zero
def b2s:=@List.pairwise_cons
def b4o:=@Array.toList_push
def b3W:=@List.pairwise_append
def b0Z:=@List.mem_singleton
def b0K:=@List.mem_append
def b4p:=@List.ext_getElem?
def b0T:=@if_pos
def b2R:=@List.getElem_of_mem
def b4x:=@List.getElem_set
def b2B:=@List.getElem_mem
def b1d:=@Nat.le_refl
def b2c:=@Nat.le_trans
def b0V:=@Nat.lt_of_lt_of_le
def b0X:=@List.mem_cons
def b1t:=@Array.getD_eq_getD_getElem?
def b4h:=@Array.getElem?_setIfInBounds
def b1s:=@Option.map_eq_some_iff
def b0N:=@if_neg
def b2G:=@if_true
def b0L:=@Nat.eq_of_beq_eq_true
def b1n:=@of_decide_eq_true
def b1u:=@List.all_eq_true
def b4c:=@List.replicate_succ
def b5a:=@List.sum_cons
def b3f:=@Go.Addr.add_lit
def b1j:=@Go.Sem.run_bind
def b1k:=@Go.Sem.run_pure
def b1c:=@Go.Result.andThen_ok
def b2L:=@Nat.add_zero
def b0R:=@decide_eq_true_eq
def b1W:=@List.eq_nil_of_length_eq_zero
def b1a:=@List.getElem?_eq_getElem
def b1Y:=@Option.some.inj
def b3a:=@List.drop_eq_getElem_cons
def b1N:=@Nat.le_of_ble_eq_true
def b1T:=@List.length_take
def b1Z:=@List.length_drop
def b2e:=@List.getElem?_take
def b2W:=@List.getElem?_drop
def b3B:=@Nat.add_assoc
def b0P:=@List.mem_map
def b3i:=@Go.Value.pointer.injEq
def b2E:=@Go.Addr.mk.injEq
def b3G:=@eq_of_heq
def b1H:=@Int.toNat_natCast
def b0M:=@Prod.mk.injEq
def b5c:=@Go.ByteArray.toList_eq
def b3E:=@Bool.eq_iff_iff
def b4q:=@Go.eqGuard_at_string
def b1K:=@Array.length_toList
def b1L:=@Array.getElem?_eq_getElem
def b4L:=@Go.Result.ok.injEq
def b4u:=@Array.ext'
def b1z:=@Bool.false_eq_true
def b3H:=@if_false
def b4R:=@List.getElem?_toArray
def b4d:=@List.take_succ_cons
def b5h:=@Int.natCast_nonneg
def b1o:=@List.append_assoc
def b1f:=@List.length_nil
def b1E:=@List.append_nil
def b4U:=@List.replicate_succ'
def b2y:=@List.flatMap_cons
def b1F:=@List.length_map
def b2i:=@List.getElem?_map
def b3X:=@Option.map_none
def b3l:=@Option.map_some
def b4S:=@Go.run_sliceBound
def b2g:=@Go.heap_alloc_new
def b2u:=@Nat.mul_le_mul_right
def b5i:=@List.map_replicate
def b4V:=@Go.TypeDesc.array.injEq
def b3e:=@List.mapM_cons
def b1M:=@Array.toArray_toList
def b2z:=@Go.Value.slice.injEq
def b2J:=@Array.toList_map
def b5j:=@Go.MapKept.heap_alloc
def WZ:List Nat:=[]
inductive D where
 | int (k:IntKind) (n:Int)
 | bool (b:Bool)
 | str (s:List UInt8)
 | slice (n:Nat) (xs:List D)
 | agg (xs:List D)
 | hole
 | ptr
def mvD{α:Type}(n:Nat)(f:α->D):Option (List α)->D
 | none => .hole
 | some l => .slice n (l.map f)
inductive aL where
 | arr2
 | sig
 | expr
 | oExpr
 | word
 | automaton
 | l00Src
 | l01Gen
 | reached
 deriving DecidableEq
inductive Ty where
 | int (k:IntKind)
 | bool
 | str
 | slice (t:Ty)
 | st (s:aL)
 | mv (t:Ty)
 | ptr
 deriving DecidableEq
structure au where
 a0:Int
 a1:Int
structure aF where
 aS:Int
 aw:Int
structure J where
 ah:Int
 aX:Int
 U:List (J)
structure mr where
 ah:Int
 aX:Int
 U:Option (List (J))
structure iy where
 SB:List (Int)
 Yg:List (Int)
structure ae where
 sig:aF
 accept:List (List (Bool))
 next:List (List (List (Int)))
structure kd where
 O:List (Int)
 pos:Int
 aD:Int
structure ke where
 s:Unit
 g:aF
 left:Int
structure af where
 pair:au
 nG:Int
 atom:Int
 act:Int
@[reducible] def aL.den:aL->Type
 | .arr2=>au
 | .sig=>aF
 | .expr=>J
 | .oExpr=>mr
 | .word=>iy
 | .automaton=>ae
 | .l00Src=>kd
 | .l01Gen=>ke
 | .reached=>af
@[reducible] def Ty.den:Ty->Type
 | .int _=>Int
 | .bool=>Bool
 | .str=>List UInt8
 | .slice t=>List t.den
 | .st s=>s.den
 | .mv t=>Option (List t.den)
 | .ptr=>Unit
structure TV where
 τ:Ty
 x:τ.den
def TV.Z9(τ:Ty)(v:TV):Option τ.den:=if h:v.τ=τ then some (h ▸ v.x) else none
def TV.aT{τ:Ty}{v:TV}{x:τ.den}(h:v.Z9 τ=some x):v=⟨τ,x⟩:=by
 unfold TV.Z9 at h;split at h
 .rename_i e;subst e;cases v;simp at h;subst h;rfl
 .cases h
@[simp] theorem TV.Wx(τ:Ty)(x:τ.den):TV.Z9 τ ⟨τ,x⟩=some x:=by simp[TV.Z9]
def aL.fields:(s:aL)->s.den->List TV
 | .arr2,x=>[⟨.int .i64,x.a0⟩,⟨.int .i64,x.a1⟩]
 | .sig,x=>[⟨.int .i64,x.aS⟩,⟨.int .i64,x.aw⟩]
 | .expr,x=>[⟨.int .i64,x.ah⟩,⟨.int .i64,x.aX⟩,⟨.slice (.st .expr),x.U⟩]
 | .oExpr,x=>[⟨.int .i64,x.ah⟩,⟨.int .i64,x.aX⟩,⟨.mv (.st .expr),x.U⟩]
 | .word,x=>[⟨.slice (.int .i64),x.SB⟩,⟨.slice (.int .i64),x.Yg⟩]
 | .automaton,x=>[⟨.st .sig,x.sig⟩,⟨.slice (.slice (.bool)),x.accept⟩,⟨.slice (.slice (.slice (.int .i64))),x.next⟩]
 | .l00Src,x=>[⟨.slice (.int .u8),x.O⟩,⟨.int .i64,x.pos⟩,⟨.int .u64,x.aD⟩]
 | .l01Gen,x=>[⟨.ptr,x.s⟩,⟨.st .sig,x.g⟩,⟨.int .i64,x.left⟩]
 | .reached,x=>[⟨.st .arr2,x.pair⟩,⟨.int .i64,x.nG⟩,⟨.int .i64,x.atom⟩,⟨.int .i64,x.act⟩]
def aL.cells:(s:aL)->s.den->List TV
 | .arr2,x=>[⟨.int .i64,x.a0⟩,⟨.int .i64,x.a1⟩]
 | .sig,x=>[⟨.int .i64,x.aS⟩,⟨.int .i64,x.aw⟩]
 | .expr,x=>[⟨.int .i64,x.ah⟩,⟨.int .i64,x.aX⟩,⟨.slice (.st .expr),x.U⟩]
 | .oExpr,x=>[⟨.int .i64,x.ah⟩,⟨.int .i64,x.aX⟩,⟨.mv (.st .expr),x.U⟩]
 | .word,x=>[⟨.slice (.int .i64),x.SB⟩,⟨.slice (.int .i64),x.Yg⟩]
 | .automaton,x=>[⟨.int .i64,x.sig.aS⟩,⟨.int .i64,x.sig.aw⟩,⟨.slice (.slice (.bool)),x.accept⟩,⟨.slice (.slice (.slice (.int .i64))),x.next⟩]
 | .l00Src,x=>[⟨.slice (.int .u8),x.O⟩,⟨.int .i64,x.pos⟩,⟨.int .u64,x.aD⟩]
 | .l01Gen,x=>[⟨.ptr,x.s⟩,⟨.int .i64,x.g.aS⟩,⟨.int .i64,x.g.aw⟩,⟨.int .i64,x.left⟩]
 | .reached,x=>[⟨.int .i64,x.pair.a0⟩,⟨.int .i64,x.pair.a1⟩,⟨.int .i64,x.nG⟩,⟨.int .i64,x.atom⟩,⟨.int .i64,x.act⟩]
def aL.size:aL->Nat
 | .arr2=>2
 | .sig=>2
 | .expr=>3
 | .oExpr=>3
 | .word=>2
 | .automaton=>4
 | .l00Src=>3
 | .l01Gen=>4
 | .reached=>5
def aL.arr:aL->Bool
 | .arr2=>true
 | _=>false
def aL.a0H(s:aL)(ha:s.arr=true){x y:s.den}(h:s.cells x=s.cells y):x=y:=by cases s<;>first|(cases ha;done)|(cases x;cases y;simpa [aL.cells] using h)
def aL.nk:aL->List Ty
 | .arr2=>[.int .i64, .int .i64]
 | .sig=>[.int .i64, .int .i64]
 | .expr=>[.int .i64, .int .i64, .slice (.st .expr)]
 | .oExpr=>[.int .i64, .int .i64, .mv (.st .expr)]
 | .word=>[.slice (.int .i64), .slice (.int .i64)]
 | .automaton=>[.int .i64, .int .i64, .slice (.slice (.bool)), .slice (.slice (.slice (.int .i64)))]
 | .l00Src=>[.slice (.int .u8), .int .i64, .int .u64]
 | .l01Gen=>[.ptr, .int .i64, .int .i64, .int .i64]
 | .reached=>[.int .i64, .int .i64, .int .i64, .int .i64, .int .i64]
def aL.dv:aL->List Ty
 | .arr2=>[.int .i64, .int .i64]
 | .sig=>[.int .i64, .int .i64]
 | .expr=>[.int .i64, .int .i64, .slice (.st .expr)]
 | .oExpr=>[.int .i64, .int .i64, .mv (.st .expr)]
 | .word=>[.slice (.int .i64), .slice (.int .i64)]
 | .automaton=>[.st .sig, .slice (.slice (.bool)), .slice (.slice (.slice (.int .i64)))]
 | .l00Src=>[.slice (.int .u8), .int .i64, .int .u64]
 | .l01Gen=>[.ptr, .st .sig, .int .i64]
 | .reached=>[.st .arr2, .int .i64, .int .i64, .int .i64]
def aL.fj:(s:aL)->List TV->Option s.den
 | .arr2,[a0,a1]=>(a0.Z9 (.int .i64)).bind λ b0=>(a1.Z9 (.int .i64)).bind λ b1=>some (au.mk b0 b1)
 | .sig,[a0,a1]=>(a0.Z9 (.int .i64)).bind λ b0=>(a1.Z9 (.int .i64)).bind λ b1=>some (aF.mk b0 b1)
 | .expr,[a0,a1,a2]=>(a0.Z9 (.int .i64)).bind λ b0=>(a1.Z9 (.int .i64)).bind λ b1=>(a2.Z9 (.slice (.st .expr))).bind λ b2=>some (J.mk b0 b1 b2)
 | .oExpr,[a0,a1,a2]=>(a0.Z9 (.int .i64)).bind λ b0=>(a1.Z9 (.int .i64)).bind λ b1=>(a2.Z9 (.mv (.st .expr))).bind λ b2=>some (mr.mk b0 b1 b2)
 | .word,[a0,a1]=>(a0.Z9 (.slice (.int .i64))).bind λ b0=>(a1.Z9 (.slice (.int .i64))).bind λ b1=>some (iy.mk b0 b1)
 | .automaton,[a0,a1,a2,a3]=>(a0.Z9 (.int .i64)).bind λ b0=>(a1.Z9 (.int .i64)).bind λ b1=>(a2.Z9 (.slice (.slice (.bool)))).bind λ b2=>(a3.Z9 (.slice (.slice (.slice (.int .i64))))).bind λ b3=>some (ae.mk (aF.mk b0 b1) b2 b3)
 | .l00Src,[a0,a1,a2]=>(a0.Z9 (.slice (.int .u8))).bind λ b0=>(a1.Z9 (.int .i64)).bind λ b1=>(a2.Z9 (.int .u64)).bind λ b2=>some (kd.mk b0 b1 b2)
 | .l01Gen,[a0,a1,a2,a3]=>(a0.Z9 (.ptr)).bind λ b0=>(a1.Z9 (.int .i64)).bind λ b1=>(a2.Z9 (.int .i64)).bind λ b2=>(a3.Z9 (.int .i64)).bind λ b3=>some (ke.mk b0 (aF.mk b1 b2) b3)
 | .reached,[a0,a1,a2,a3,a4]=>(a0.Z9 (.int .i64)).bind λ b0=>(a1.Z9 (.int .i64)).bind λ b1=>(a2.Z9 (.int .i64)).bind λ b2=>(a3.Z9 (.int .i64)).bind λ b3=>(a4.Z9 (.int .i64)).bind λ b4=>some (af.mk (au.mk b0 b1) b2 b3 b4)
 | _,_=>none
def aL.mn:∀ {s:aL} {l:List TV} {x:s.den},s.fj l=some x->s.cells x=l:=by
 intro s l x h;cases s;case arr2 =>
  match l,h with
  | [a0,a1],h =>
   simp only[aL.fj,b1X,b0J] at h;obtain⟨b0,h0,⟨b1,h1,rfl⟩⟩:=h;have e0:=TV.aT h0;have e1:=TV.aT h1;subst e0 e1;rfl
 case sig =>
  match l,h with
  | [a0,a1],h =>
   simp only[aL.fj,b1X,b0J] at h;obtain⟨b0,h0,⟨b1,h1,rfl⟩⟩:=h;have e0:=TV.aT h0;have e1:=TV.aT h1;subst e0 e1;rfl
 case expr =>
  match l,h with
  | [a0,a1,a2],h =>
   simp only[aL.fj,b1X,b0J] at h;obtain⟨b0,h0,⟨b1,h1,⟨b2,h2,rfl⟩⟩⟩:=h;have e0:=TV.aT h0;have e1:=TV.aT h1;have e2:=TV.aT h2;subst e0 e1 e2;rfl
 case oExpr =>
  match l,h with
  | [a0,a1,a2],h =>
   simp only[aL.fj,b1X,b0J] at h;obtain⟨b0,h0,⟨b1,h1,⟨b2,h2,rfl⟩⟩⟩:=h;have e0:=TV.aT h0;have e1:=TV.aT h1;have e2:=TV.aT h2;subst e0 e1 e2;rfl
 case word =>
  match l,h with
  | [a0,a1],h =>
   simp only[aL.fj,b1X,b0J] at h;obtain⟨b0,h0,⟨b1,h1,rfl⟩⟩:=h;have e0:=TV.aT h0;have e1:=TV.aT h1;subst e0 e1;rfl
 case automaton =>
  match l,h with
  | [a0,a1,a2,a3],h =>
   simp only[aL.fj,b1X,b0J] at h;obtain⟨b0,h0,⟨b1,h1,⟨b2,h2,⟨b3,h3,rfl⟩⟩⟩⟩:=h;have e0:=TV.aT h0;have e1:=TV.aT h1;have e2:=TV.aT h2;have e3:=TV.aT h3;subst e0 e1 e2 e3;rfl
 case l00Src =>
  match l,h with
  | [a0,a1,a2],h =>
   simp only[aL.fj,b1X,b0J] at h;obtain⟨b0,h0,⟨b1,h1,⟨b2,h2,rfl⟩⟩⟩:=h;have e0:=TV.aT h0;have e1:=TV.aT h1;have e2:=TV.aT h2;subst e0 e1 e2;rfl
 case l01Gen =>
  match l,h with
  | [a0,a1,a2,a3],h =>
   simp only[aL.fj,b1X,b0J] at h;obtain⟨b0,h0,⟨b1,h1,⟨b2,h2,⟨b3,h3,rfl⟩⟩⟩⟩:=h;have e0:=TV.aT h0;have e1:=TV.aT h1;have e2:=TV.aT h2;have e3:=TV.aT h3;subst e0 e1 e2 e3;rfl
 case reached =>
  match l,h with
  | [a0,a1,a2,a3,a4],h =>
   simp only[aL.fj,b1X,b0J] at h;obtain⟨b0,h0,⟨b1,h1,⟨b2,h2,⟨b3,h3,⟨b4,h4,rfl⟩⟩⟩⟩⟩:=h;have e0:=TV.aT h0;have e1:=TV.aT h1;have e2:=TV.aT h2;have e3:=TV.aT h3;have e4:=TV.aT h4;subst e0 e1 e2 e3 e4;rfl
def aL.fV(s:aL)(x:s.den):(s.cells x).length=s.size:=by cases s<;>rfl
def aL.jd(s:aL)(x:s.den):(s.cells x).map TV.τ=s.nk:=by cases s<;>rfl
def aL.Cw(s:aL)(x:s.den):(s.fields x).map TV.τ=s.dv:=by cases s<;>rfl
def Ty.size:Ty->Nat
 | .st s=>s.size
 | _=>1
def TV.cells(v:TV):List TV :=
 match v with
 | ⟨.st s,x⟩=>s.cells x
 | v=>[v]
def aL.E9(s:aL)(x:s.den):s.cells x=(s.fields x).flatMap TV.cells:=by cases s<;>rfl
def au.aK(x:au):D := .agg [.int .i64 x.a0, .int .i64 x.a1]
def aF.aK(x:aF):D := .agg [.int .i64 x.aS, .int .i64 x.aw]
mutual
def J.aK:J->D
 | ⟨ah,aX,U⟩ => .agg [.int .i64 ah, .int .i64 aX, .slice 3 (J.a3p U)]
def J.a3p:List J->List D
 | []=>[]
 | e::r=>e.aK::J.a3p r
end
def J.JI:∀ l,J.a3p l=l.map J.aK
 | []=>rfl
 | _::r=>congrArg _ (J.JI r)
def mr.aK(x:mr):D := .agg [.int .i64 x.ah, .int .i64 x.aX,mvD 3 (λ y=>J.aK y) x.U]
def iy.aK(x:iy):D := .agg [.slice 1 (x.SB.map λ y => .int .i64 y), .slice 1 (x.Yg.map λ y => .int .i64 y)]
def ae.aK(x:ae):D := .agg [.int .i64 x.sig.aS, .int .i64 x.sig.aw, .slice 1 (x.accept.map λ y => .slice 1 (y.map λ y => .bool y)), .slice 1 (x.next.map λ y => .slice 1 (y.map λ y => .slice 1 (y.map λ y => .int .i64 y)))]
def kd.aK(x:kd):D := .agg [.slice 1 (x.O.map λ y => .int .u8 y), .int .i64 x.pos, .int .u64 x.aD]
def ke.aK(x:ke):D := .agg [.ptr, .int .i64 x.g.aS, .int .i64 x.g.aw, .int .i64 x.left]
def af.aK(x:af):D := .agg [.int .i64 x.pair.a0, .int .i64 x.pair.a1, .int .i64 x.nG, .int .i64 x.atom, .int .i64 x.act]
def aL.aK:(s:aL)->s.den->D
 | .arr2,x=>au.aK x
 | .sig,x=>aF.aK x
 | .expr,x=>J.aK x
 | .oExpr,x=>mr.aK x
 | .word,x=>iy.aK x
 | .automaton,x=>ae.aK x
 | .l00Src,x=>kd.aK x
 | .l01Gen,x=>ke.aK x
 | .reached,x=>af.aK x
def Ty.aK:(t:Ty)->t.den->D
 | .int k,n => .int k n
 | .bool,b => .bool b
 | .str,s => .str s
 | .slice t,xs => .slice t.size (xs.map t.aK)
 | .st s,x=>s.aK x
 | .mv t,o=>mvD t.size t.aK o
 | .ptr,_ => .ptr
def TV.aK(v:TV):D:=v.τ.aK v.x
def aL.bX(s:aL)(x:s.den):s.aK x = .agg ((s.cells x).map TV.aK):=by
 cases s<;>first
  | rfl
  | (cases x;simp[aL.aK,J.aK,aL.cells,TV.aK,Ty.aK,Ty.size,aL.size,J.JI];done)
  | (simp[aL.aK,aL.cells,TV.aK,Ty.aK,Ty.size,aL.size,au.aK,aF.aK,J.aK,mr.aK,iy.aK,ae.aK,kd.aK,ke.aK,af.aK,J.JI];done)
def aL.zero:(s:aL)->s.den
 | .arr2=>(au.mk 0 0)
 | .sig=>(aF.mk 0 0)
 | .expr=>(J.mk 0 0 [])
 | .oExpr=>(mr.mk 0 0 none)
 | .word=>(iy.mk [] [])
 | .automaton=>(ae.mk (aF.mk 0 0) [] [])
 | .l00Src=>(kd.mk [] 0 0)
 | .l01Gen=>(ke.mk () (aF.mk 0 0) 0)
 | .reached=>(af.mk (au.mk 0 0) 0 0 0)
def Ty.zero:(t:Ty)->t.den
 | .int _=>(0:Int)
 | .bool=>false
 | .str=>([]:List UInt8)
 | .slice _=>[]
 | .st s=>s.zero
 | .mv _=>none
 | .ptr=>()
instance:Inhabited au:=⟨aL.zero .arr2⟩
def au.eta(x:au):au.mk x.a0 x.a1=x:=by cases x;rfl
instance:Inhabited aF:=⟨aL.zero .sig⟩
def aF.eta(x:aF):aF.mk x.aS x.aw=x:=by cases x;rfl
instance:Inhabited J:=⟨aL.zero .expr⟩
def J.eta(x:J):J.mk x.ah x.aX x.U=x:=by cases x;rfl
instance:Inhabited mr:=⟨aL.zero .oExpr⟩
def mr.eta(x:mr):mr.mk x.ah x.aX x.U=x:=by cases x;rfl
instance:Inhabited iy:=⟨aL.zero .word⟩
def iy.eta(x:iy):iy.mk x.SB x.Yg=x:=by cases x;rfl
instance:Inhabited ae:=⟨aL.zero .automaton⟩
def ae.eta(x:ae):ae.mk x.sig x.accept x.next=x:=by cases x;rfl
instance:Inhabited kd:=⟨aL.zero .l00Src⟩
def kd.eta(x:kd):kd.mk x.O x.pos x.aD=x:=by cases x;rfl
instance:Inhabited ke:=⟨aL.zero .l01Gen⟩
def ke.eta(x:ke):ke.mk x.s x.g x.left=x:=by cases x;rfl
instance:Inhabited af:=⟨aL.zero .reached⟩
def af.eta(x:af):af.mk x.pair x.nG x.atom x.act=x:=by cases x;rfl
def aQ(x:J):J:=J.mk x.ah x.aX x.U
def cu(x:J):aQ x=x:=by cases x;simp[aQ]
def aL.WS:∀ (s:aL) (fl:List TV),fl.map TV.τ=s.dv->∃ x,s.fields x=fl
 | .arr2,fl,h=>by
  match fl,h with
  | [⟨t0,a0⟩,⟨t1,a1⟩],h =>
   simp only[b1p,b2k,aL.dv,b0O,b1i] at h;obtain⟨rfl,rfl⟩:=h;exact⟨⟨a0,a1⟩,rfl⟩
 | .sig,fl,h=>by
  match fl,h with
  | [⟨t0,a0⟩,⟨t1,a1⟩],h =>
   simp only[b1p,b2k,aL.dv,b0O,b1i] at h;obtain⟨rfl,rfl⟩:=h;exact⟨⟨a0,a1⟩,rfl⟩
 | .expr,fl,h=>by
  match fl,h with
  | [⟨t0,a0⟩,⟨t1,a1⟩,⟨t2,a2⟩],h =>
   simp only[b1p,b2k,aL.dv,b0O,b1i] at h;obtain⟨rfl,rfl,rfl⟩:=h;exact⟨⟨a0,a1,a2⟩,rfl⟩
 | .oExpr,fl,h=>by
  match fl,h with
  | [⟨t0,a0⟩,⟨t1,a1⟩,⟨t2,a2⟩],h =>
   simp only[b1p,b2k,aL.dv,b0O,b1i] at h;obtain⟨rfl,rfl,rfl⟩:=h;exact⟨⟨a0,a1,a2⟩,rfl⟩
 | .word,fl,h=>by
  match fl,h with
  | [⟨t0,a0⟩,⟨t1,a1⟩],h =>
   simp only[b1p,b2k,aL.dv,b0O,b1i] at h;obtain⟨rfl,rfl⟩:=h;exact⟨⟨a0,a1⟩,rfl⟩
 | .automaton,fl,h=>by
  match fl,h with
  | [⟨t0,a0⟩,⟨t1,a1⟩,⟨t2,a2⟩],h =>
   simp only[b1p,b2k,aL.dv,b0O,b1i] at h;obtain⟨rfl,rfl,rfl⟩:=h;exact⟨⟨a0,a1,a2⟩,rfl⟩
 | .l00Src,fl,h=>by
  match fl,h with
  | [⟨t0,a0⟩,⟨t1,a1⟩,⟨t2,a2⟩],h =>
   simp only[b1p,b2k,aL.dv,b0O,b1i] at h;obtain⟨rfl,rfl,rfl⟩:=h;exact⟨⟨a0,a1,a2⟩,rfl⟩
 | .l01Gen,fl,h=>by
  match fl,h with
  | [⟨t0,a0⟩,⟨t1,a1⟩,⟨t2,a2⟩],h =>
   simp only[b1p,b2k,aL.dv,b0O,b1i] at h;obtain⟨rfl,rfl,rfl⟩:=h;exact⟨⟨a0,a1,a2⟩,rfl⟩
 | .reached,fl,h=>by
  match fl,h with
  | [⟨t0,a0⟩,⟨t1,a1⟩,⟨t2,a2⟩,⟨t3,a3⟩],h =>
   simp only[b1p,b2k,aL.dv,b0O,b1i] at h;obtain⟨rfl,rfl,rfl,rfl⟩:=h;exact⟨⟨a0,a1,a2,a3⟩,rfl⟩
abbrev zE:J:=J.mk (0:Int) (0:Int) []
def ag:True:=trivial
noncomputable section
@[reducible] def FN:List Ty->Ty->Type
 | [],r=>Prop×r.den
 | t::ts,r=>t.den->FN ts r
structure FV where
 ps:List Ty
 r:Ty
 F:FN ps r
def FV.Z9(ps:List Ty)(r:Ty)(v:FV):Option (FN ps r):=if h:v.ps=ps then (if k:v.r=r then some (h ▸ k ▸ v.F) else none) else none
def FV.aT{ps:List Ty}{r:Ty}{v:FV}{F:FN ps r}(h:v.Z9 ps r=some F):v=⟨ps,r,F⟩:=by
 unfold FV.Z9 at h;split at h
 .split at h
  .rename_i e k;obtain⟨ps',r',F'⟩:=v;simp only at e k;subst e k;simp at h;subst h;rfl
  .cases h
 .cases h
@[simp] theorem FV.Wx(ps:List Ty)(r:Ty)(F:FN ps r):FV.Z9 ps r ⟨ps,r,F⟩=some F:=by simp[FV.Z9]
structure MV where
 κ:Ty
 ε:Ty
 f:κ.den->Option ε.den
 n:Nat
def MV.Z9(κ ε:Ty)(m:MV):Option ((κ.den->Option ε.den)×Nat):=if h:m.κ=κ then (if k:m.ε=ε then some (h ▸ k ▸ (m.f,m.n)) else none) else none
def MV.aT{κ ε:Ty}{m:MV}{F:(κ.den->Option ε.den)×Nat}(h:m.Z9 κ ε=some F):m=⟨κ,ε,F.1,F.2⟩:=by
 unfold MV.Z9 at h;split at h
 .split at h
  .rename_i e k;obtain⟨κ',ε',f',n'⟩:=m;simp only at e k;subst e k;simp at h;subst h;rfl
  .cases h
 .cases h
@[simp] theorem MV.Wx(κ ε:Ty)(f:κ.den->Option ε.den)(n:Nat):MV.Z9 κ ε ⟨κ,ε,f,n⟩=some (f,n):=by simp[MV.Z9]
def fb{α β:Type}(f:α->Option β)(k:α)(v:β):α->Option β:=λ x => @ite _ (x=k) (Classical.propDecidable _) (some v) (f x)
def iL(α β:Type):α->Option β:=λ _=>none
def gv{β:Type}(o:Option β)(n:Nat):Nat:=bif o.isSome then n else n+1
inductive AV where
 | any
 | dX
 | aO (v:TV)
 | nil
 | cU (v:TV)
 | ptr (id off:Nat)
 | row (id:Nat)
 | ep (id i off:Nat)
 | agg (cs:List AV)
 | gK (vs:List AV)
 | fn (f:FuncId)
 | aE (id:Nat)
 | sub (id i off sz:Nat)
 | eB (id i off sz:Nat)
 | cP (f:FuncId) (cs:List AV)
 | gR (v:FV)
 | mp (id:Nat)
inductive aB where
 | box (cs:List AV)
 | row (e:TypeId) (τ:Ty) (xs:List τ.den)
 | aE (τ:Ty) (xs:List τ.den)
 | map (m:MV)
structure aj where
 aC:List AV
 aJ:List (Nat×aB)
inductive Arg where
 | val (v:TV)
 | ref (v:TV)
 | fn (f:FuncId)
 | cP (v:FV)
 | own (v:TV)
 | box (k:Nat)
inductive CK where
 | d (τ:Ty)
 | o (τ:Ty)
 | p (k:Nat)
structure SK where
 ps:List (Option Nat)
 sh:List (List CK)
def ai{α:Type}:List (Nat×α)->Nat->Option α
 | [],_=>none
 | (k,v)::r,n=>match Nat.beq k n with
  | true=>some v
  | false=>ai r n
abbrev Vc:=Option Prop
def Vc.ok:Vc->Prop
 | .none=>True
 | .some p=>p
def Vc.and(v:Vc)(K:Prop):Prop:=match v with
 | .none=>K
 | .some p=>p/\K
def Vc.ja{v:Vc}{K:Prop}(h:v.and K):v.ok/\K:=by
 cases v with
 | none=>exact⟨ag,h⟩
 | some p=>exact h
structure Uq where
 τ:Ty
 g:τ.den->Int->Vc×τ.den×Int
structure qc where
 ps:List Ty
 r:Ty
 ej:List (Bool×Ty)
def Arg.HE:Arg->Bool
 | .ref _ | .cP _ | .box _=>false
 | _=>true
inductive Ye where
 | box (cells:List TV)
 | row (e:TypeId) (τ:Ty) (xs:List τ.den)
 | res (l:List (Bool×TV))
structure Env where
 ty:List (Nat×Ty×Nat×Nat)
 TW:List (Nat×Ty)
 Ka:Nat->List Arg->Option (Vc×List TV)
 wr:List Nat:=[]
 own:List Nat:=[]
 Jg:Nat->List Arg->Option (Vc×List TV):=λ _ _=>none
 mark:Nat->Option Uq:=λ _=>none
 cP:Nat->Option qc:=λ _=>none
 ro:List Nat:=[]
 tk:Nat->List Bool:=λ _=>[]
 sk:Nat->Option SK:=λ _=>none
 R9:Nat->List Arg->List (List TV)->Option (Vc×List TV×List (List TV)):=λ _ _ _=>none
 Ja:List (Nat×Ty×Ty):=[]
 PQ:Nat->List Arg->Option (Vc×Ye):=λ _ _=>none
 cmp:List Nat:=[]
 Mm:Nat->List Arg->(τ:Ty)->List τ.den->Option (Vc×List τ.den):=λ _ _ _ _=>none
def aj.ai(s:aj)(id:Nat):Option aB:=YtofnjfpeimhifaaGreatDoor.ai s.aJ id
def Ot(k:IntKind)(n:Int):Bool :=
 match n with
 | .ofNat m=>match k with
  | .i64=>Nat.ble m 9223372036854775807
  | .u64=>Nat.ble m 18446744073709551615
  | .u8=>Nat.ble m 255
  | _=>Nat.ble m 127
 | .negSucc m=>match k with
  | .i64=>Nat.ble m 9223372036854775807
  | _=>false
def Ib:Value->AV
 | .int k n=>match Ot k n with
  | true => .aO ⟨.int k,n⟩
  | false => .any
 | .bool b => .aO ⟨.bool,b⟩
 | .string s=>match Nat.ble s.data.size 1000000 with
  | true => .aO ⟨.str,s.data.toList⟩
  | false => .any
 | .slice none 0 0 => .nil
 | _ => .any
def UB:Value->AV
 | .agg cs => .agg (cs.toList.map Ib)
 | .tuple cs=>match Nat.beq cs.size 0 with
  | true => .dX
  | false => .any
 | v=>Ib v
def aj.eval(s:aj):Operand->AV
 | .tmp t=>s.aC.getD t .any
 | .const v=>UB v
 | .func f => .fn f
 | .global _ => .any
def iR(lk:Nat->Option aB)(τ:Ty):AV->Option τ.den
 | .aO v=>v.Z9 τ
 | .nil=>match τ with
  | .slice _=>some []
  | _=>none
 | .row id=>match lk id with
  | some (.row _ aW xs)=>TV.Z9 τ ⟨.slice aW,xs⟩
  | _=>none
 | .aE id=>match lk id with
  | some (.aE aW xs)=>TV.Z9 τ ⟨.slice aW,xs⟩
  | _=>none
 | _=>none
def Jf(lk:Nat->Option aB)(id:Nat):Option aB:=match lk id with
 | some (.aE _ _)=>none
 | o=>o
def N8(lk:Nat->Option aB):List AV->List Ty->Option (List TV)
 | [],[]=>some []
 | c::cs,t::ts=>match iR lk t c with
  | some x=>match N8 lk cs ts with
   | some r=>some (⟨t,x⟩::r)
   | none=>none
  | none=>none
 | _,_=>none
def sO(lk:Nat->Option aB)(τ:Ty):AV->Option τ.den
 | .agg cs=>match τ with
  | .st s=>match N8 lk cs s.nk with
   | some l=>s.fj l
   | none=>none
  | _=>none
 | v=>iR lk τ v
def AV.cell:AV->Bool
 | .any | .dX | .agg _ | .gK _ | .eB .. | .cP .. | .gR .. => false
 | .aO v=>match v.τ with
  | .st _=>false
  | _=>true
 | _=>true
def cellsOf(τ:Ty)(v:AV):Option (List AV) :=
 match τ with
 | .st s=>match v with
  | .aO x=>match x.Z9 (.st s) with
   | some y=>some ((s.cells y).map .aO)
   | none=>none
  | .agg cs=>match Nat.beq cs.length s.size&&cs.all AV.cell with
   | true=>some cs
   | false=>none
  | _=>none
 | _=>match v.cell with
  | true=>some [v]
  | false=>none
def DY(cs:List AV)(off:Nat)(τ:Ty):Option AV :=
 match τ with
 | .st s=>match Nat.ble (off+s.size) cs.length with
  | true=>some (.agg ((cs.drop off).take s.size))
  | false=>none
 | _=>cs[off]?
def putCells(cs:List AV)(off:Nat)(new:List AV):Option (List AV) :=
 match Nat.ble (off+new.length) cs.length with
 | true=>some (cs.take off++(new++cs.drop (off+new.length)))
 | false=>none
def TV.part(v:TV)(off:Nat)(τ:Ty):Option TV :=
 match Nat.beq off 0&&decide (v.τ=τ) with
 | true=>some v
 | false=>match v.cells[off]? with
  | some u=>match decide (u.τ=τ) with
   | true=>some u
   | false=>none
  | none=>none
def TV.XI(v:TV)(off:Nat):Ty->Option AV
 | .st s=>match Nat.ble (off+s.size) v.cells.length with
  | true=>some (.agg (((v.cells.drop off).take s.size).map .aO))
  | false=>none
 | _=>none
def pW(lk:Nat->Option aB)(τ:Ty):AV->Option AV
 | .cU v=>match decide (v.τ=τ) with
  | true=>some (.aO v)
  | false=>none
 | .ptr id off=>match lk id with
  | some (.box cs)=>DY cs off τ
  | _=>none
 | .ep id i off=>match lk id with
  | some (.row _ aW xs)=>match TV.part ⟨aW,xs.getD i aW.zero⟩ off τ with
   | some u=>some (.aO u)
   | none=>TV.XI ⟨aW,xs.getD i aW.zero⟩ off τ
  | _=>none
 | _=>none
def deref(lk:Nat->Option aB)(τ:Ty)(v:AV):Option τ.den :=
 match pW lk τ v with
 | some u=>sO lk τ u
 | none=>none
def aL.dN(s:aL)(i:Nat):Nat:=((s.dv.take i).map Ty.size).sum
def zeroCell(τ:Ty):AV :=
 match τ with
 | .slice _ => .nil
 | τ => .aO ⟨τ,τ.zero⟩
def zeroCells(τ:Ty):List AV :=
 match τ with
 | .st s=>s.nk.map zeroCell
 | τ=>[zeroCell τ]
def nN(lk:Nat->Option aB):List (Bool×Ty)->List AV->Option (List Arg)
 | [],[]=>some []
 | (true,τ)::ks,v::vs=>match deref lk τ v with
  | some x=>match nN lk ks vs with
   | some r=>some (.ref ⟨τ,x⟩::r)
   | none=>none
  | none=>none
 | (false,τ)::ks,v::vs=>match sO lk τ v with
  | some x=>match nN lk ks vs with
   | some r=>some (.val ⟨τ,x⟩::r)
   | none=>none
  | none=>none
 | _,_=>none
def Oo(E:Env)(f:FuncId)(ej:List Arg):(ps:List Ty)->(r:Ty)->List Arg->FN ps r
 | [],r,acc=>match E.Ka f (acc++ej) with
  | some (pre,[v])=>match v.Z9 r with
   | some y=>(pre.ok,y)
   | none=>(False,r.zero)
  | _=>(False,r.zero)
 | t::ts,r,acc=>λ x=>Oo E f ej ts r (acc++[.val ⟨t,x⟩])
def qH:(ps:List Ty)->(r:Ty)->FN ps r->List Arg->Option (Prop×r.den)
 | [],_,F,[]=>some F
 | t::ts,r,F, .val a::zs=>match a.Z9 t with
  | some x=>qH ts r (F x) zs
  | none=>none
 | _,_,_,_=>none
def zL(E:Env)(lk:Nat->Option aB):AV->Option FV
 | .cP f cs=>match E.cP f with
  | some k=>match nN lk k.ej cs with
   | some Z9=>some ⟨k.ps,k.r,Oo E f Z9 k.ps k.r []⟩
   | none=>none
  | none=>none
 | .gR v=>some v
 | .fn f=>match E.cP f with
  | some k=>match k.ej with
   | []=>some ⟨k.ps,k.r,Oo E f [] k.ps k.r []⟩
   | _=>none
  | none=>none
 | _=>none
def N6(E:Env)(lk:Nat->Option aB)(T:TypeId)(v:AV):Option Arg :=
 match ai E.ty T with
 | some (τ,_)=>match sO lk τ v with
  | some x=>some (.val ⟨τ,x⟩)
  | none=>none
 | none=>match ai E.TW T with
  | some τ=>match deref lk τ v with
   | some x=>some (.ref ⟨τ,x⟩)
   | none=>none
  | none=>match zL E lk v with
   | some q=>some (.cP q)
   | none=>match v with
    | .fn f=>some (.fn f)
    | _=>none
def kJ(E:Env)(lk:Nat->Option aB):List TypeId->List AV->Option (List Arg)
 | [],[]=>some []
 | T::Ts,v::vs=>match N6 E lk T v with
  | some x=>match kJ E lk Ts vs with
   | some r=>some (x::r)
   | none=>none
  | none=>none
 | _,_=>none
def Aw:List TV->AV
 | [v] => .aO v
 | vs => .gK (vs.map .aO)
def av(n:Int):Prop := -9223372036854775808<=n/\n<=9223372036854775807
def cD(k:IntKind)(n:Int):Prop :=
 match k with
 | .i64=>av n
 | k=>k.min<=n/\n<=k.max
def aI(n:Int)(len:Nat):Prop:=0<=n/\n<(len:Int)
def mJ(l h:Int)(len:Nat):Prop:=0<=l/\l<=h/\h<=(len:Int)
def dH(n m:Int)(b:Nat):Prop:=0<=n/\n<=m/\m * ((b:Int)+1)<=140737488355328
def bC(n b:Nat):Prop:=n * (b+1)<=140737488355328
def arith(op:BinOp)(k:IntKind)(a b:Int):Option (Vc×Int) :=
 match op with
 | .add=>match k with
  | .u64=>some (.none,IntKind.u64.wrap (a+b))
  | k=>some (.some (cD k (a+b)),a+b)
 | .sub=>some (.some (cD k (a - b)),a - b)
 | .mul=>match k with
  | .u64=>some (.none,IntKind.u64.wrap (a * b))
  | k=>some (.some (cD k (a * b)),a * b)
 | .quo=>some (.some (b≠0/\cD k (a.tdiv b)),a.tdiv b)
 | .rem=>some (.some (b≠0/\cD k (a.tmod b)),a.tmod b)
 | .shl=>some (.some (0<=b/\b<k.bits/\cD k (a * 2 ^ b.toNat)),a * 2 ^ b.toNat)
 | .shr=>some (.some (0<=b/\b<k.bits/\cD k (a.fdiv (2 ^ b.toNat))),a.fdiv (2 ^ b.toNat))
 | .and=>some (.some (0<=a/\0<=b/\cD k a/\cD k b),((a.toNat &&& b.toNat:Nat):Int))
 | _=>none
def cmp(op:BinOp)(a b:Int):Option Bool :=
 match op with
 | .eql=>some (decide (a=b))
 | .neq=>some (!decide (a=b))
 | .lss=>some (decide (a<b))
 | .leq=>some (decide (a<=b))
 | .gtr=>some (decide (b<a))
 | .geq=>some (decide (b<=a))
 | _=>none
def Sz(wr:Bool)(op:BinOp)(k:IntKind)(a b:Int):Option (Vc×Int) :=
 match wr with
 | true=>match op with
  | .add=>some (.none,k.wrap (a+b))
  | .sub=>some (.none,k.wrap (a - b))
  | .mul=>some (.none,k.wrap (a * b))
  | op=>arith op k a b
 | false=>arith op k a b
def WE(tb wr:Bool)(op:BinOp)(u v:AV):Option (Vc×AV) :=
 match u,v with
 | .aO ⟨.int k,a⟩, .aO ⟨.int k',b⟩=>match Sz wr op k a b with
  | some (p,r)=>match op with
   | .shl | .shr=>some (p, .aO ⟨.int k,r⟩)
   | _=>match decide (k=k') with
    | true=>some (p, .aO ⟨.int k,r⟩)
    | false=>none
  | none=>match decide (k=k') with
   | true=>match cmp op a b with
    | some c=>some (.none, .aO ⟨.bool,c⟩)
    | none=>none
   | false=>none
 | .aO ⟨.bool,a⟩, .aO ⟨.bool,b⟩=>match tb with
  | true=>match op with
   | .eql=>some (.none, .aO ⟨.bool,a == b⟩)
   | .neq=>some (.none, .aO ⟨.bool,!(a == b)⟩)
   | _=>none
  | false=>none
 | .aO ⟨.str,a⟩, .aO ⟨.str,b⟩=>match op with
  | .eql=>some (.none, .aO ⟨.bool,decide (a=b)⟩)
  | .neq=>some (.none, .aO ⟨.bool,!decide (a=b)⟩)
  | .add=>some (.some (a.length+b.length<=140737488355328), .aO ⟨.str,a++b⟩)
  | _=>none
 | _,_=>none
def partsOf(E:Env)(s:aL)(cs:List AV):List (Nat×AV)->Option (List AV)
 | []=>some cs
 | (i,v)::r=>match s.dv[i]? with
  | some τ=>match cellsOf τ v with
   | some new=>match putCells cs (s.dN i) new with
    | some dC=>partsOf E s dC r
    | none=>none
   | none=>none
  | none=>none
def qn(τ:Ty):Nat->List (Nat×AV)->Option (List τ.den)
 | _,[]=>some []
 | n,(
    i,v)::r=>match Nat.beq i n with
  | true=>match sO (λ _=>none) τ v with
   | some x=>match qn τ (n+1) r with
    | some xs=>some (x::xs)
    | none=>none
   | none=>none
  | false=>none
def TV.flat(v:TV):Bool:=v.cells.all λ u=>match u.τ with
 | .slice _=>false
 | .mv _=>false
 | _=>true
def nM(d:Int):Option AV->Option Int
 | none=>some d
 | some (.aO ⟨.int _,n⟩)=>some n
 | _=>none
def pX(lk:Nat->Option aB)(id:Nat):Option aB:=match lk id with
 | some (.box cs)=>some (.box cs)
 | _=>none
def DU(E:Env)(lk:Nat->Option aB)(f:FuncId)(Ts:List TypeId)(vs:List AV):Option (Vc×AV×Option aB) :=
 match kJ E (pX lk) Ts vs with
 | some Z9=>match E.Ka f Z9 with
  | some (pre,res)=>some (pre,Aw res,none)
  | none=>none
 | none=>match kJ E lk Ts vs with
  | some Z9=>match E.Ka f Z9 with
   | some (pre,res)=>match res.all TV.flat with
    | true=>some (pre,Aw res,none)
    | false=>none
   | none=>none
  | none=>none
def ye(E:Env)(lk:Nat->Option aB)(g:AV)(Ts:List TypeId)(vs:List AV):Option (Vc×AV×Option aB) :=
 match (match kJ E (pX lk) Ts vs with
  | some Z9=>match zL E (pX lk) g with
   | some q=>match qH q.ps q.r q.F Z9 with
    | some (pre,y)=>some (some pre,Aw [⟨q.r,y⟩],none)
    | none=>none
   | none=>none
  | none=>none) with
 | some r=>some r
 | none=>match kJ E lk Ts vs with
  | some Z9=>match zL E lk g with
   | some q=>match qH q.ps q.r q.F Z9 with
    | some (pre,y)=>match TV.flat ⟨q.r,y⟩ with
     | true=>some (some pre,Aw [⟨q.r,y⟩],none)
     | false=>none
    | none=>none
   | none=>none
  | none=>none
def AV.a0V:AV->Bool
 | .dX | .gK _ | .cP .. | .gR .. | .sub .. | .eB .. => false
 | _=>true
def TL(E:Env)(op:BinOp)(T:TypeId)(u v:AV):Option (Vc×AV) :=
 match ai E.ty T,u,v with
 | some (.slice _,_), .aO ⟨.slice _,xs⟩, .nil=>match op with
  | .eql=>some (.some (1<=xs.length), .aO ⟨.bool,false⟩)
  | .neq=>some (.some (1<=xs.length), .aO ⟨.bool,true⟩)
  | _=>none
 | _,_,_=>none
def Ir(n:aL)(i:Nat):AV->Option AV
 | .cU v=>match v.Z9 (.st n) with
  | some y=>match (n.fields y)[i]? with
   | some f=>some (.cU f)
   | none=>none
  | none=>none
 | .ptr id off=>match Nat.blt i n.dv.length with
  | true=>some (.ptr id (off+n.dN i))
  | false=>none
 | .ep id k off=>match Nat.blt i n.dv.length with
  | true=>some (.ep id k (off+n.dN i))
  | false=>none
 | _=>none
def Nz(n:aL)(i:Nat):AV->Option AV
 | .aO v=>match v.Z9 (.st n) with
  | some y=>match (n.fields y)[i]? with
   | some f=>some (.aO f)
   | none=>none
  | none=>none
 | .agg cs=>match n.dv[i]? with
  | some τ=>DY cs (n.dN i) τ
  | none=>none
 | _=>none
def Hv(E:Env)(lk:Nat->Option aB)(ev:Operand->AV)(o:Oper):Option (Vc×AV×Option aB) :=
 match o.op with
 | .move x=>some (.none,ev x,none)
 | .assign x=>some (.none,ev x,none)
 | .pick c a b=>match ev c with
  | .aO ⟨.bool,true⟩=>some (.none,ev a,none)
  | .aO ⟨.bool,false⟩=>some (.none,ev b,none)
  | _=>none
 | .alloc T=>match o.dst,ai E.ty T with
  | some d,some (τ,_)=>some (.none, .ptr d 0,some (.box (zeroCells τ)))
  | _,_=>none
 | .box T x=>match o.dst,ai E.ty T with
  | some d,some (τ,_)=>match E.ro.contains d with
   | true=>match sO (λ _=>none) τ (ev x) with
    | some y=>some (.none, .cU ⟨τ,y⟩,none)
    | none=>none
   | false=>match cellsOf τ (ev x) with
    | some cs=>some (.none, .ptr d 0,some (.box cs))
    | none=>none
  | _,_=>none
 | .build T parts=>match ai E.ty T with
  | some (.st n,_)=>match partsOf E n (zeroCells (.st n)) (parts.toList.map λ p=>(p.1,ev p.2)) with
   | some cs=>some (.none, .agg cs,none)
   | none=>none
  | _=>none
 | .buildSlice T len parts=>match o.dst,ai E.ty T with
  | some d,some (.slice τ,_,e)=>match Nat.beq parts.size len&&Nat.ble len 1000 with
   | true=>match qn τ 0 (parts.toList.map λ p=>(p.1,ev p.2)) with
    | some xs=>match E.ro.contains d with
     | true=>some (.none, .aO ⟨.slice τ,xs⟩,none)
     | false=>some (.none, .row d,some (.row e τ xs))
    | none=>none
   | false=>none
  | _,_=>none
 | .load T a=>match ai E.ty T with
  | some (τ,_)=>match pW lk τ (ev a) with
   | some v=>some (.none,v,none)
   | none=>none
  | none=>none
 | .nilCheck x=>match ev x with
  | .cU v=>some (.none, .cU v,none)
  | .ptr id off=>some (.none, .ptr id off,none)
  | .ep id i off=>some (.none, .ep id i off,none)
  | _=>none
 | .fieldAddr T x i=>match ai E.ty T with
  | some (.st n,_)=>match n.arr with
   | true=>none
   | false=>match Ir n i (ev x) with
    | some v=>some (.none,v,none)
    | none=>none
  | _=>none
 | .field T x i=>match ai E.ty T with
  | some (.st n,_)=>match n.arr with
   | true=>none
   | false=>match Nz n i (ev x) with
    | some v=>some (.none,v,none)
    | none=>none
  | _=>none
 | .indexAddr T x ix=>match ai E.ty T with
  | some (
      .slice τ,_)=>match ev ix with
   | .aO ⟨.int _,n⟩=>match ev x with
    | .aO v=>match v.Z9 (.slice τ) with
     | some xs=>some (.some (aI n xs.length), .cU ⟨τ,xs.getD n.toNat τ.zero⟩,none)
     | none=>none
    | .row id=>match lk id with
     | some (.row _ aW xs)=>match decide (aW=τ) with
      | true=>some (.some (aI n xs.length), .ep id n.toNat 0,none)
      | false=>none
     | _=>none
    | _=>none
   | _=>none
  | some (.st n,_)=>match n.arr,ev ix with
   | true, .aO ⟨.int _, .ofNat i⟩=>match Ir n i (ev x) with
    | some v=>some (.none,v,none)
    | none=>none
   | _,_=>none
  | _=>none
 | .index T x ix=>match ai E.ty T with
  | some (.str,_)=>match ev ix with
   | .aO ⟨.int _,n⟩=>match ev x with
    | .aO ⟨.str,xs⟩=>some (.some (aI n xs.length), .aO ⟨.int .u8,((xs.getD n.toNat 0).toNat:Int)⟩,none)
    | _=>none
   | _=>none
  | some (.st n,_)=>match n.arr,ev ix with
   | true, .aO ⟨.int _, .ofNat i⟩=>match Nz n i (ev x) with
    | some v=>some (.none,v,none)
    | none=>none
   | _,_=>none
  | _=>none
 | .binOp op T x y _=>match TL E op T (ev x) (ev y) with
  | some (p,v)=>some (p,v,none)
  | none=>match WE (match ai E.ty T with
   | some (.bool,_)=>true
   | _=>false) (match o.dst with
   | some d=>E.wr.contains d
   | none=>false) op (ev x) (ev y) with
   | some (p,v)=>some (p,v,none)
   | none=>none
 | .unOp op _ x=>match op,ev x with
  | .not, .aO ⟨.bool,b⟩=>some (.none, .aO ⟨.bool,!b⟩,none)
  | .neg, .aO ⟨.int k,n⟩=>some (.some (cD k (-n)), .aO ⟨.int k,-n⟩,none)
  | _,_=>none
 | .convert src dst x=>match ai E.ty src,ai E.ty dst with
  | some (.int _,_),some (.int k,_)=>match ev x with
   | .aO ⟨.int _,n⟩=>some (.some (cD k n), .aO ⟨.int k,n⟩,none)
   | _=>none
  | _,_=>none
 | .slice T x lo hi mx=>match ai E.ty T,mx with
  | some (.slice τ,_),none=>match ev x with
   | .aO v=>match v.Z9 (.slice τ) with
    | some xs=>match nM 0 (lo.map ev),nM (xs.length:Int) (hi.map ev) with
     | some l,some h=>some (.some (mJ l h xs.length), .aO ⟨.slice τ,(xs.take h.toNat).drop l.toNat⟩,none)
     | _,_=>none
    | none=>none
   | _=>none
  | some (.str,_),none=>match ev x with
   | .aO ⟨.str,xs⟩=>match nM 0 (lo.map ev),nM (xs.length:Int) (hi.map ev) with
    | some l,some h=>some (.some (mJ l h xs.length), .aO ⟨.str,(xs.take h.toNat).drop l.toNat⟩,none)
    | _,_=>none
   | _=>none
  | _,_=>none
 | .extract t i=>match ev t with
  | .gK vs=>match vs[i]? with
   | some v=>some (.none,v,none)
   | none=>none
  | _=>none
 | .makeSlice T l c=>match o.dst,ai E.ty T with
  | some d,some (.slice τ,b,e)=>match ev l,ev c with
   | .aO ⟨.int .i64,n⟩, .aO ⟨.int .i64,m⟩=>some (.some (dH n m b), .row d,some (.row e τ (List.replicate n.toNat τ.zero)))
   | _,_=>none
  | _,_=>none
 | .call c=>match c.callee with
  | .builtin .len=>match c.argTypes.toList,c.args.toList.map ev with
   | [T],[v]=>match ai E.ty T with
    | some (.slice _,_)=>match v with
     | .nil=>some (.none, .aO ⟨.int .i64,(0:Int)⟩,none)
     | .aO ⟨.slice _,xs⟩=>some (.none, .aO ⟨.int .i64,(xs.length:Int)⟩,none)
     | .row id=>match lk id with
      | some (.row _ _ xs)=>some (.none, .aO ⟨.int .i64,(xs.length:Int)⟩,none)
      | _=>none
     | _=>none
    | some (.str,_)=>match v with
     | .aO ⟨.str,xs⟩=>some (.none, .aO ⟨.int .i64,(xs.length:Int)⟩,none)
     | _=>none
    | none=>match v,ai E.Ja T with
     | .mp id,some _=>match lk id with
      | some (.map m)=>some (.none, .aO ⟨.int .i64,(m.n:Int)⟩,none)
      | _=>none
     | _,_=>none
    | _=>none
   | _,_=>none
  | .builtin .append=>match o.dst,c.argTypes.toList with
   | some d,[T,T']=>match Nat.beq T T',ai E.ty T with
    | true,some (.slice τ,b,e)=>match c.args.toList.map ev with
     | [.nil,y]=>match iR (Jf lk) (.slice τ) y with
      | some ys=>some (.some (bC ys.length b), .row d,some (.row e τ ys))
      | none=>none
     | _=>none
    | _,_=>none
   | _,_=>none
  | .builtin .max=>match c.args.toList.map ev with
   | [.aO ⟨.int k,m⟩, .aO ⟨.int k',n⟩]=>match decide (k'=k) with
    | true=>some (.none, .aO ⟨.int k,(max m n:Int)⟩,none)
    | false=>none
   | _=>none
  | .value (.func f)=>DU E lk f c.argTypes.toList (c.args.toList.map ev)
  | .value (.tmp t)=>match ev (.tmp t) with
   | .fn f=>DU E lk f c.argTypes.toList (c.args.toList.map ev)
   | .cP f cs=>ye E lk (.cP f cs) c.argTypes.toList (c.args.toList.map ev)
   | .gR v=>ye E lk (.gR v) c.argTypes.toList (c.args.toList.map ev)
   | _=>none
  | _=>none
 | .makeMap T none=>match o.dst,ai E.Ja T with
  | some d,some (κ,ε)=>some (.none, .mp d,some (.map ⟨κ,ε,iL κ.den ε.den,0⟩))
  | _,_=>none
 | .lookup T x ix ok=>match ai E.Ja T with
  | some (
      κ,ε)=>match ev x,sO (λ _=>none) κ (ev ix) with
   | .mp id,some k=>match lk id with
    | some (.map m)=>match m.Z9 κ ε with
     | some (f,_)=>match ok with
      | true=>some (.none, .gK [.aO ⟨ε,(f k).getD ε.zero⟩, .aO ⟨.bool,(f k).isSome⟩],none)
      | false=>some (.none, .aO ⟨ε,(f k).getD ε.zero⟩,none)
     | none=>none
    | _=>none
   | _,_=>none
  | none=>none
 | .makeFunc fn first captured=>match fn,first.toList,(captured.toList.map ev).all AV.a0V with
  | .func f,[],true=>match captured.toList.map ev with
   | []=>some (.none, .fn f,none)
   | cs=>some (.none, .cP f cs,none)
  | _,_,_=>none
 | _=>none
mutual
def AV.refs(id:Nat):AV->Bool
 | .ptr i _=>Nat.beq i id
 | .row i=>Nat.beq i id
 | .ep i _ _=>Nat.beq i id
 | .aE i=>Nat.beq i id
 | .sub i _ _ _=>Nat.beq i id
 | .eB i _ _ _=>Nat.beq i id
 | .mp i=>Nat.beq i id
 | .agg cs=>AV.fL id cs
 | .gK cs=>AV.fL id cs
 | .cP _ cs=>AV.fL id cs
 | _=>false
def AV.fL(id:Nat):List AV->Bool
 | []=>false
 | v::r=>match AV.refs id v with
  | true=>true
  | false=>AV.fL id r
end
def AV.kill(id:Nat)(v:AV):AV:=match v.refs id with
 | true => .any
 | false=>v
def aB.kill(id:Nat):aB->aB
 | .box cs => .box (cs.map (AV.kill id))
 | o=>o
def aj.bU(s:aj)(id:Nat):aj :=
 { aC:=s.aC.map (AV.kill id),aJ:=s.aJ.map λ p=>(p.1,p.2.kill id) }
def bF(id:Nat):List (Nat×aB)->List (Nat×aB)
 | []=>[]
 | (k,o)::r=>match Nat.beq k id with
  | true=>bF id r
  | false=>(k,o)::bF id r
def aj.put(s:aj)(d:Option Nat)(v:AV):aj :=
 match d with
 | some d=>{ s with aC:=s.aC.set d v }
 | none=>s
def aj.lay(s:aj)(d:Option Nat)(v:AV)(o:Option aB):aj :=
 match o,d with
 | some o,some d =>
  let s':=s.bU d;{ aC:=s'.aC.set d v,aJ:=(d,o.kill d)::bF d s'.aJ }
 | _,d=>s.put d v
mutual
def AV.rows:AV->List Nat
 | .row i=>[i]
 | .agg cs=>AV.XT cs
 | _=>[]
def AV.XT:List AV->List Nat
 | []=>[]
 | v::r=>AV.rows v++AV.XT r
end
def Rx(s:aj)(v:AV):List Nat :=
 match v with
 | .ptr id _=>match s.ai id with
  | some (.box cs)=>AV.XT cs
  | _=>[]
 | v=>v.rows
def a0G(s:aj)(v:AV):List Nat :=
 match v with
 | .cP _ cs=>cs.flatMap (Rx s)
 | v=>Rx s v
def jG(E:Env)(s:aj)(o:Oper):List Nat :=
 match (match o.dst with
  | some d=>E.own.contains d
  | none=>false) with
 | true=>[]
 | false=>match o.op with
 | .buildSlice _ _ parts=>parts.toList.flatMap λ p=>(s.eval p.2).rows
 | .slice _ x _ _ _=>(s.eval x).rows
 | .store _ a x=>match s.eval a with
  | .ep _ _ _=>(s.eval x).rows
  | _=>[]
 | .call c=>match c.callee with
  | .value _=>match E.Ka (match c.callee with
    | .value (.func f)=>f
    | .value (.tmp t)=>match s.eval (.tmp t) with
     | .fn f=>f
     | _=>0
    | _=>0) (match kJ E s.ai c.argTypes.toList (c.args.toList.map s.eval) with
     | some Z9=>Z9
     | none=>[]) with
   | some (_,res)=>match res.all TV.flat with
    | true=>[]
    | false=>c.args.toList.flatMap λ x=>a0G s (s.eval x)
   | none=>[]
  | _=>[]
 | _=>[]
mutual
def AV.ED(id:Nat)(u:AV):AV->AV
 | .row i=>match Nat.beq i id with
  | true=>u
  | false => .row i
 | .ep i k off=>match Nat.beq i id with
  | true => .any
  | false => .ep i k off
 | .agg cs => .agg (AV.ON id u cs)
 | .gK cs => .gK (AV.ON id u cs)
 | .cP f cs => .cP f (AV.ON id u cs)
 | v=>v
def AV.ON(id:Nat)(u:AV):List AV->List AV
 | []=>[]
 | v::r=>AV.ED id u v::AV.ON id u r
end
def aB.ED(id:Nat)(u:AV):aB->aB
 | .box cs => .box (AV.ON id u cs)
 | o=>o
mutual
def AV.BK(id:Nat)(u:AV):AV->AV
 | .aE i=>match Nat.beq i id with
  | true=>u
  | false => .aE i
 | .sub i k off z=>match Nat.beq i id with
  | true => .any
  | false => .sub i k off z
 | .eB i k off z=>match Nat.beq i id with
  | true => .any
  | false => .eB i k off z
 | .agg cs => .agg (AV.OM id u cs)
 | .gK cs => .gK (AV.OM id u cs)
 | .cP f cs => .cP f (AV.OM id u cs)
 | v=>v
def AV.OM(id:Nat)(u:AV):List AV->List AV
 | []=>[]
 | v::r=>AV.BK id u v::AV.OM id u r
end
def aB.BK(id:Nat)(u:AV):aB->aB
 | .box cs => .box (AV.OM id u cs)
 | o=>o
def aj.freeze(s:aj)(id:Nat):aj :=
 match s.ai id with
 | some (.row _ τ xs) =>
  { aC:=AV.ON id (.aO ⟨.slice τ,xs⟩) s.aC,aJ:=(bF id s.aJ).map λ p=>(p.1,p.2.ED id (.aO ⟨.slice τ,xs⟩)) }
 | some (.aE τ xs) =>
  { aC:=AV.OM id (.aO ⟨.slice τ,xs⟩) s.aC,aJ:=(bF id s.aJ).map λ p=>(p.1,p.2.BK id (.aO ⟨.slice τ,xs⟩)) }
 | _=>s
def D6(E:Env)(s:aj)(d:Option Nat)(T:TypeId)(m k x:Operand):Option (Vc×aj):=match ai E.Ja T with
 | some (κ,ε)=>match s.eval m,s.eval x with
  | .mp id, .aO v=>match s.ai id,sO (λ _=>none) κ (s.eval k),v.Z9 ε with
   | some (.map m),some k,some x=>match m.Z9 κ ε with
    | some (f,n)=>some (.some (n<1000000000),{ s with aJ:=(id, .map ⟨κ,ε,fb f k x,gv (f k) n⟩)::bF id s.aJ }.put d .any)
    | none=>none
   | _,_,_=>none
  | _,_=>none
 | none=>none
def S4(E:Env)(s:aj)(o:Oper):Option (Vc×aj) :=
 match o.op with
 | .mapUpdate T m k x=>D6 E s o.dst T m k x
 | .insert T m k x=>D6 E s o.dst T m k x
 | .store T a x=>match ai E.ty T with
  | some (
      τ,_)=>match s.eval a with
   | .ptr id off=>match s.ai id with
    | some (.box cs)=>match cellsOf τ (s.eval x) with
     | some new=>match putCells cs off new with
      | some dC=>some (.none,{ s with aJ:=(id, .box dC)::bF id s.aJ }.put o.dst .any)
      | none=>none
     | none=>none
    | _=>none
   | .ep id i 0=>match s.ai id with
    | some (.row e' aW xs)=>match decide (aW=τ),sO (λ _=>none) aW (s.eval x) with
     | true,some x=>some (.none,{ s with aJ:=(id, .row e' aW (xs.set i x))::bF id s.aJ }.put o.dst .any)
     | _,_=>none
    | _=>none
   | _=>none
  | none=>none
 | .call c=>match c.callee with
  | .builtin .append=>match o.dst,c.argTypes.toList with
   | some d,[T,T']=>match Nat.beq T T',ai E.ty T with
    | true,some (.slice τ,b,e)=>match c.args.toList.map s.eval with
     | [.row id,y]=>match s.ai id,iR (Jf s.ai) (.slice τ) y with
      | some (.row e' aW xs),some ys=>match Nat.beq e' e,TV.Z9 (.slice τ) ⟨.slice aW,xs⟩ with
       | true,some cK =>
        let s':=s.bU id;some (.some (bC (cK.length+ys.length) b),{ aC:=s'.aC.set d (.row id),aJ:=(id, .row e τ (cK++ys))::bF id s'.aJ })
       | _,_=>none
      | _,_=>none
     | _=>none
    | _,_=>none
   | _,_=>none
  | _=>none
 | _=>none
def nodupB:List Nat->Bool
 | []=>true
 | a::r=>match r.contains a with
  | true=>false
  | false=>nodupB r
def cS:Option aB->Bool
 | some (.aE ..)=>true
 | _=>false
def jA(id:Nat):TV->AV
 | ⟨.slice _,_⟩ => .aE id
 | ⟨.mv _,_⟩ => .any
 | u => .aO u
def fh(id:Nat):TV->List (Nat×aB)
 | ⟨.slice τ,xs⟩=>[(id, .aE τ xs)]
 | _=>[]
def ca:Nat->List TV->List AV
 | _,[]=>[]
 | id,u::r=>jA id u::ca (id+1) r
def bP:Nat->List TV->List (Nat×aB)
 | _,[]=>[]
 | id,u::r=>fh id u++bP (id+1) r
def iw(id:Nat):TV->AV
 | ⟨.st s,y⟩ => .agg (ca id (s.cells y))
 | v=>jA id v
def Jl:Nat->List TV->List AV
 | _,[]=>[]
 | id,v::r=>iw id v::Jl (id+20) r
def bj:Nat->List TV->List (Nat×aB)
 | _,[]=>[]
 | id,v::r=>bP id v.cells++bj (id+20) r
def jm(id:Nat):List TV->AV
 | [v]=>iw id v
 | vs => .gK (Jl id vs)
def Ty.agg:Ty->Bool
 | .st _=>true
 | _=>false
def Ty.qA:Ty->Bool
 | .int _ | .bool | .str | .ptr=>true
 | _=>false
def Ty.key:Ty->Bool
 | .int _ | .bool | .str=>true
 | _=>false
def Ty.Fw:Ty->Bool
 | .st s=>s.arr&&(decide (s.nk=[.int .i64, .int .i64])&&decide (s.dv=[.int .i64, .int .i64]))
 | t=>t.key
def Ty.plain:Ty->Bool
 | .st s=>s.nk.all Ty.qA
 | .slice _=>false
 | .mv _=>false
 | _=>true
def eO(lk:Nat->Option aB)(τ:Ty):AV->Option (τ.den×List Nat)
 | .aO v=>match τ.qA,v.Z9 τ with
  | true,some y=>some (y,[])
  | _,_=>none
 | .nil=>match τ with
  | .slice _=>some ([],[])
  | _=>none
 | .aE id=>match lk id with
  | some (.aE aW xs)=>match TV.Z9 τ ⟨.slice aW,xs⟩ with
   | some y=>some (y,[id])
   | none=>none
  | _=>none
 | .row id=>match lk id with
  | some (.row _ aW xs)=>match aW.plain,TV.Z9 τ ⟨.slice aW,xs⟩ with
   | true,some y=>some (y,[id])
   | _,_=>none
  | _=>none
 | _=>none
def JF(lk:Nat->Option aB):List AV->List Ty->Option (List TV×List Nat)
 | [],[]=>some ([],[])
 | c::cs,t::ts=>match eO lk t c with
  | some (x,i)=>match JF lk cs ts with
   | some (r,j)=>some (⟨t,x⟩::r,i++j)
   | none=>none
  | none=>none
 | _,_=>none
def HF(lk:Nat->Option aB)(τ:Ty):AV->Option (τ.den×List Nat)
 | .agg cs=>match τ with
  | .st s=>match JF lk cs s.nk with
   | some (l,ids)=>match s.fj l with
    | some y=>some (y,ids)
    | none=>none
   | none=>none
  | _=>none
 | v=>eO lk τ v
mutual
def AV.JB:AV->Bool
 | .sub .. => true
 | .agg cs=>AV.nb cs
 | .gK cs=>AV.nb cs
 | .cP _ cs=>AV.nb cs
 | _=>false
def AV.nb:List AV->Bool
 | []=>false
 | v::r=>match AV.JB v with
  | true=>true
  | false=>AV.nb r
end
def AV.cT(v:AV):AV:=match v.JB with
 | true => .any
 | false=>v
def aB.cT:aB->aB
 | .box cs => .box (cs.map AV.cT)
 | o=>o
def aj.cm(s:aj):aj:={ aC:=s.aC.map AV.cT,aJ:=s.aJ.map λ p=>(p.1,p.2.cT) }
def aj.fQ(s:aj)(id:Nat)(τ:Ty)(xs:List τ.den):aj :=
 { s with aJ:=(id, .aE τ xs)::bF id s.aJ }
def aj.gone(s:aj)(id:Nat):aj :=
 let s':=s.bU id
 { s' with aJ:=bF id s'.aJ }
def mo(τ:Ty)(x:τ.den)(off:Nat)(u:TV):Option τ.den :=
 match τ with
 | .st s=>match (s.cells x)[off]? with
  | some v=>match decide (v.τ=u.τ) with
   | true=>s.fj ((s.cells x).set off u)
   | false=>none
  | none=>none
 | τ=>match Nat.beq off 0 with
  | true=>u.Z9 τ
  | false=>none
def Ty.full:Ty->Ty
 | .mv t => .slice t
 | t=>t
def Ty.a5s:Ty->Ty->Bool
 | .st p, .st q=>decide (p.nk.map Ty.full=q.nk)
 | _,_=>false
def Ty.NG:Ty->Bool
 | .mv _=>true
 | t=>t.qA
def WY:TV->TV
 | ⟨.mv t,o⟩=>⟨.slice t,Option.getD (α:=List t.den) o []⟩
 | u=>u
def S3:TV->TV
 | ⟨.mv t,_⟩=>⟨.mv t,(none:Option (List t.den))⟩
 | u=>u
def xO:List TV->Prop
 | []=>True
 | ⟨.mv t,o⟩::r=>Option.isSome (α:=List t.den) o=true/\xO r
 | _::r=>xO r
def a3Y(_:aj)(_:Nat)(_:Uq)(_:List AV):Option (Vc×aj):=none
def WQ:Ty->Bool
 | .slice _=>true
 | t=>t.qA
def Kc(id i sz:Nat):Nat->List TV->List AV
 | _,[]=>[]
 | j,u::us=>(match u.τ.qA with
  | true => .aO u
  | false => .sub id i j sz)::Kc id i sz (j+1) us
def Vt(s:aj)(d:Option Nat)(id i off sz:Nat)(τ aW:Ty)(xs:List aW.den):Option (Vc×aj):=match τ with
 | .st q=>match Nat.beq q.size sz&&(Nat.beq off 0&&q.nk.all WQ),TV.Z9 (.st q) ⟨aW,xs.getD i aW.zero⟩ with
  | true,some y=>some (.none,s.put d (.agg (Kc id i sz 0 (q.cells y))))
  | _,_=>none
 | _=>none
def TQ(E:Env)(s:aj)(o:Oper):Option (Vc×aj) :=
 match o.op with
 | .indexAddr T x ix=>match ai E.ty T with
  | some (.slice τ,_)=>match s.eval ix,s.eval x with
   | .aO ⟨.int _,n⟩, .aE id=>match s.ai id with
    | some (.aE aW xs)=>match decide (aW=τ)||aW.a5s τ with
     | true=>some (.some (aI n xs.length),s.put o.dst (.eB id n.toNat 0 τ.size))
     | false=>none
    | _=>none
   | _,_=>none
  | _=>none
 | .fieldAddr T x i=>match ai E.ty T with
  | some (.st n,_)=>match s.eval x with
   | .eB id k off sz=>match !n.arr&&Nat.blt i n.dv.length with
    | true=>some (.none,s.put o.dst (.eB id k (off+n.dN i) sz))
    | false=>none
   | _=>none
  | _=>none
 | .load T ad=>match ai E.ty T with
  | some (
      τ,_)=>match s.eval ad with
   | .eB id i off sz=>match s.ai id with
    | some (.aE aW xs)=>match TV.part ⟨aW,xs.getD i aW.zero⟩ off τ,Nat.beq aW.size sz&&(!τ.agg&&Nat.blt off aW.size) with
     | some u,true=>match τ.qA with
      | true=>some (.none,s.put o.dst (.aO u))
      | false=>some (.none,s.put o.dst (.sub id i off sz))
     | _,_=>Vt s o.dst id i off sz τ aW xs
    | _=>none
   | _=>none
  | none=>none
 | .store T ad x=>match ai E.ty T with
  | some (
      τ,_)=>match s.eval ad with
   | .eB id i off sz=>match s.ai id with
    | some (
        .aE aW xs)=>match Nat.beq aW.size sz&&Nat.blt off aW.size with
     | true=>match τ.qA with
      | true=>match eO (λ _=>none) τ (s.eval x) with
       | some (u,_)=>match TV.part ⟨aW,xs.getD i aW.zero⟩ off τ,mo aW (xs.getD i aW.zero) off ⟨τ,u⟩ with
        | some _,some y=>some (.none,(s.cm.fQ id aW (xs.set i y)).put o.dst .any)
        | _,_=>none
       | none=>none
      | false=>match Nat.beq off 0,HF s.ai τ (s.eval x) with
       | true,some (y,ids)=>match nodupB (id::ids),TV.Z9 aW ⟨τ,y⟩ with
        | true,some y'=>some (.none,((ids.foldl aj.gone s).cm.fQ id aW (xs.set i y')).put o.dst .any)
        | _,_=>none
       | _,_=>none
     | false=>none
    | _=>none
   | _=>none
  | none=>none
 | .makeSlice T l cc=>match o.dst,ai E.ty T with
  | some d,some (.slice τ,b,_)=>match E.own.contains d&&(Nat.blt d 50||Nat.ble 100 d) with
   | true=>match s.eval l,s.eval cc with
    | .aO ⟨.int .i64,n⟩, .aO ⟨.int .i64,m⟩=>some (.some (dH n m b),{ aC:=(s.gone d).aC.set d (.aE d),aJ:=(d, .aE τ (List.replicate n.toNat τ.zero))::(s.gone d).aJ })
    | _,_=>none
   | false=>none
  | _,_=>none
 | .call c=>match c.callee with
  | .builtin .len=>match c.argTypes.toList,c.args.toList.map s.eval with
   | [T],[.aE id]=>match ai E.ty T,s.ai id with
    | some (.slice _,_),some (.aE _ xs)=>some (.none,s.put o.dst (.aO ⟨.int .i64,(xs.length:Int)⟩))
    | _,_=>none
   | _,_=>none
  | .value (
       .func f)=>match o.dst with
   | some d=>match E.own.contains d with
    | true=>match E.mark f with
     | some m=>a3Y s d m (c.args.toList.map s.eval)
     | none=>match kJ E s.ai c.argTypes.toList (c.args.toList.map s.eval) with
      | some Z9=>match E.Jg f Z9 with
       | some (pre,res)=>match ((bj (100 * (d+1)) res).all λ p=>(s.ai p.1).isNone)&&nodupB ((bj (100 * (d+1)) res).map (·.1)) with
        | true=>some (pre,{ aC:=s.aC.set d (jm (100 * (d+1)) res),aJ:=bj (100 * (d+1)) res++s.aJ })
        | false=>none
       | none=>none
      | none=>none
    | false=>none
   | none=>none
  | _=>none
 | _=>none
def bJ(d:Nat):Nat:=100 * (d+1)
def DK(lk:Nat->Option aB)(τ:Ty):Nat->List (Nat×AV)->Option (List τ.den×List Nat)
 | _,[]=>some ([],[])
 | n,(
    i,v)::r=>match Nat.beq i n with
  | true=>match HF lk τ v with
   | some (x,ids)=>match DK lk τ (n+1) r with
    | some (xs,js)=>some (x::xs,ids++js)
    | none=>none
   | none=>none
  | false=>none
def aj.qf(s:aj)(d:Nat)(τ:Ty)(xs:List τ.den):aj :=
 { aC:=s.aC.set d (.aE (bJ d)),aJ:=(bJ d, .aE τ xs)::s.aJ }
def gj(E:Env)(lk:Nat->Option aB):List Bool->List TypeId->List AV->Option (List (Option TV)×List Nat)
 | [],[],[]=>some ([],[])
 | true::fl,T::Ts,v::vs=>match ai E.ty T with
  | some (τ,_)=>match HF lk τ v with
   | some (x,i)=>match gj E lk fl Ts vs with
    | some (r,j)=>some (some ⟨τ,x⟩::r,i++j)
    | none=>none
   | none=>none
  | none=>none
 | false::fl,_::Ts,_::vs=>match gj E lk fl Ts vs with
  | some (r,j)=>some (none::r,j)
  | none=>none
 | _,_,_=>none
def e8(E:Env)(lk:Nat->Option aB):List (Option TV)->List TypeId->List AV->Option (List Arg)
 | [],[],[]=>some []
 | some x::r,_::Ts,_::vs=>match e8 E lk r Ts vs with
  | some Z9=>some (.own x::Z9)
  | none=>none
 | none::r,T::Ts,v::vs=>match N6 E lk T v with
  | some x=>match x.HE,e8 E lk r Ts vs with
   | true,some Z9=>some (x::Z9)
   | _,_=>none
  | none=>none
 | _,_,_=>none
def SI(E:Env)(s:aj)(o:Oper):Option (Vc×aj) :=
 match o.dst with
 | some d=>match E.own.contains d with
  | true=>match o.op with
   | .buildSlice T len parts=>match ai E.ty T with
    | some (.slice τ,_)=>match Nat.beq parts.size len&&Nat.ble len 1000 with
     | true=>match DK s.ai τ 0 (parts.toList.map λ p=>(p.1,s.eval p.2)) with
      | some (xs,ids)=>match nodupB ids,(ids.foldl aj.gone s).ai (bJ d) with
       | true,none=>some (.none,(ids.foldl aj.gone s).qf d τ xs)
       | _,_=>none
      | none=>none
     | false=>none
    | _=>none
   | .load T ad=>match ai E.ty T,s.eval ad with
    | some (.st q,_), .eB id i 0 sz=>match s.ai id with
     | some (.aE (.st p) xs)=>match Nat.beq p.size sz&&p.nk.all Ty.NG,p.fj ((p.cells (xs.getD i (Ty.zero (.st p)))).map S3),q.fj ((p.cells (xs.getD i (Ty.zero (.st p)))).map WY) with
      | true,some y,some z=>match ((bP (bJ d) (q.cells z)).all λ e=>(s.ai e.1).isNone)&&nodupB ((bP (bJ d) (q.cells z)).map (·.1)) with
       | true=>some (.some (xO (p.cells (xs.getD i (Ty.zero (.st p))))),{ aC:=s.cm.aC.set d (iw (bJ d) ⟨.st q,z⟩),aJ:=bP (bJ d) (q.cells z)++(s.cm.fQ id (.st p) (xs.set i y)).aJ })
       | false=>none
      | _,_,_=>none
     | _=>none
    | _,_=>none
   | .call c=>match c.callee with
    | .builtin .append=>match c.argTypes.toList with
     | [T,T']=>match Nat.beq T T',ai E.ty T with
      | true,some (.slice τ,b,_)=>match c.args.toList.map s.eval with
       | [x,y]=>match eO s.ai (.slice τ) x,eO s.ai (.slice τ) y with
        | some (xs,i),some (ys,j)=>match nodupB (i++j),((i++j).foldl aj.gone s).ai (bJ d) with
         | true,none=>some (.some (bC (xs.length+ys.length) b),((i++j).foldl aj.gone s).qf d τ (xs++ys))
         | _,_=>none
        | _,_=>none
       | _=>none
      | _,_=>none
     | _=>none
    | .value (
         .func f)=>match E.tk f with
     | []=>none
     | fl=>match gj E s.ai fl c.argTypes.toList (c.args.toList.map s.eval) with
      | some (own,ids)=>match nodupB ids,e8 E (ids.foldl aj.gone s).ai own c.argTypes.toList (c.args.toList.map (ids.foldl aj.gone s).eval) with
       | true,some Z9=>match E.Jg f Z9 with
        | some (pre,res)=>match ((bj (bJ d) res).all λ p=>((ids.foldl aj.gone s).ai p.1).isNone)&&nodupB ((bj (bJ d) res).map (·.1)) with
         | true=>some (pre,{ aC:=(ids.foldl aj.gone s).aC.set d (jm (bJ d) res),aJ:=bj (bJ d) res++(ids.foldl aj.gone s).aJ })
         | false=>none
        | none=>none
       | _,_=>none
      | none=>none
    | _=>none
   | _=>none
  | false=>none
 | none=>none
def iA:List (Option Nat)->List AV->List (Nat×Nat)->Option (List (Nat×Nat))
 | [],[],m=>some m
 | some k::fl,v::vs,m=>match v with
  | .ptr id 0=>match ai m k with
   | some i=>match Nat.beq i id with
    | true=>iA fl vs m
    | false=>none
   | none=>iA fl vs ((k,id)::m)
  | _=>none
 | none::fl,_::vs,m=>iA fl vs m
 | _,_,_=>none
def cR(lk:Nat->Option aB):List CK->List AV->List (Nat×Nat)->Option (List TV×List Nat×List (Nat×Nat))
 | [],[],m=>some ([],[],m)
 | .d τ::ks,v::vs,m=>match iR (λ _=>none) τ v,τ.agg with
  | some x,false=>match cR lk ks vs m with
   | some (ds,ids,m)=>some (⟨τ,x⟩::ds,ids,m)
   | none=>none
  | _,_=>none
 | .o τ::ks,v::vs,m=>match eO lk τ v,τ.agg with
  | some (x,i),false=>match cR lk ks vs m with
   | some (ds,ids,m)=>some (⟨τ,x⟩::ds,i++ids,m)
   | none=>none
  | _,_=>none
 | .p j::ks,v::vs,m=>match v with
  | .ptr id 0=>match ai m j with
   | some i=>match Nat.beq i id with
    | true=>cR lk ks vs m
    | false=>none
   | none=>cR lk ks vs ((j,id)::m)
  | _=>none
 | _,_,_=>none
def ic(lk:Nat->Option aB):List (List CK)->Nat->List (Nat×Nat)->Option (List (List TV)×List Nat×List (Nat×Nat))
 | [],_,m=>some ([],[],m)
 | ks::sh,k,m=>match ai m k with
  | some id=>match lk id with
   | some (.box cs)=>match cR lk ks cs m with
    | some (ds,i,m)=>match ic lk sh (k+1) m with
     | some (bB,ids,m)=>some (ds::bB,i++ids,m)
     | none=>none
    | none=>none
   | _=>none
  | none=>none
def TP(lk:Nat->Option aB)(ids:List Nat)(id:Nat):Option aB:=match ids.contains id with
 | true=>none
 | false=>match lk id with
  | some (.box cs)=>some (.box cs)
  | _=>none
def Iq(sh:List (List CK)):Bool:=sh.all λ ks=>ks.all λ k=>match k with
 | .d (.slice _)=>false
 | .d (.mv _)=>false
 | _=>true
def sLk(sh:List (List CK))(lk:Nat->Option aB)(ids:List Nat)(id:Nat):Option aB:=match Iq sh with
 | true=>match ids.contains id with
  | true=>none
  | false=>lk id
 | false=>TP lk ids id
def oA(E:Env)(lk:Nat->Option aB):List (Option Nat)->List TypeId->List AV->Option (List Arg)
 | [],[],[]=>some []
 | some k::fl,_::Ts,_::vs=>match oA E lk fl Ts vs with
  | some r=>some (.box k::r)
  | none=>none
 | none::fl,T::Ts,v::vs=>match N6 E lk T v with
  | some x=>match oA E lk fl Ts vs with
   | some r=>some (x::r)
   | none=>none
  | none=>none
 | _,_,_=>none
def bT(m:List (Nat×Nat)):List CK->List AV->List TV->Nat->Option (List AV×List (Nat×aB)×Nat)
 | [],[],[],n=>some ([],[],n)
 | .d τ::ks,_::cs,v::ds,n=>match decide (v.τ=τ) with
  | true=>match bT m ks cs ds n with
   | some (r,os,n)=>some (.aO v::r,os,n)
   | none=>none
  | false=>none
 | .o τ::ks,_::cs,v::ds,n=>match decide (v.τ=τ) with
  | true=>match bT m ks cs ds (n+1) with
   | some (r,os,n')=>some (jA n v::r,fh n v++os,n')
   | none=>none
  | false=>none
 | .p j::ks,c::cs,ds,n=>match c with
  | .ptr id 0=>match ai m j with
   | some i=>match Nat.beq i id,bT m ks cs ds n with
    | true,some (r,os,n)=>some (.ptr id 0::r,os,n)
    | _,_=>none
   | none=>none
  | _=>none
 | _,_,_,_=>none
def pI(lk:Nat->Option aB)(m:List (Nat×Nat)):List (List CK)->Nat->List (List TV)->Nat->Option (List (Nat×aB)×List (Nat×aB))
 | [],_,[],_=>some ([],[])
 | ks::sh,k,ds::bB,n=>match ai m k with
  | some id=>match lk id with
   | some (.box cs)=>match bT m ks cs ds n with
    | some (r,os,n)=>match pI lk m sh (k+1) bB n with
     | some (bs,ts)=>some ((id, .box r)::bs,os++ts)
     | none=>none
    | none=>none
   | _=>none
  | none=>none
 | _,_,_,_=>none
def ga:List Nat->List (Nat×aB)->List (Nat×aB)
 | [],os=>os
 | id::r,os=>ga r (bF id os)
def Uk(E:Env)(s:aj)(d:Nat)(f:FuncId)(Ts:List TypeId)(vs:List AV):Option (Vc×aj) :=
 match vs.reverse with
 | .aE id::rv=>match s.ai id with
  | some (.aE τ xs)=>match oA E (TP s.ai []) (rv.map λ _=>none) Ts.dropLast rv.reverse with
   | some Z9=>match E.Mm f Z9 τ xs,τ.qA with
    | some (pre,ys),true=>some (pre,(s.cm.fQ id τ ys).put (some d) .any)
    | _,_=>none
   | none=>none
  | _=>none
 | _=>none
def Ub(E:Env)(s:aj)(o:Oper):Option (Vc×aj) :=
 match o.dst with
 | some d=>match o.op with
  | .call c=>match c.callee with
   | .value (
        .func f)=>match E.sk f with
    | some sk=>match iA sk.ps (c.args.toList.map s.eval) [] with
     | some m0=>match ic s.ai sk.sh 0 m0 with
      | some (
          bB,ids,m)=>match nodupB ids&&(nodupB (m.map (·.1))&&(nodupB (m.map (·.2))&&Nat.beq m.length sk.sh.length)) with
       | true=>match oA E (sLk sk.sh (ids.foldl aj.gone s).ai (m.map (·.2))) sk.ps c.argTypes.toList (c.args.toList.map (ids.foldl aj.gone s).eval) with
        | some Z9=>match E.R9 f Z9 bB with
         | some (pre,res,dF)=>match pI (ids.foldl aj.gone s).ai m sk.sh 0 dF (bJ d+60) with
          | some (bs,ts)=>match ((bj (bJ d) res++ts).all λ p=>((ids.foldl aj.gone s).ai p.1).isNone)&&nodupB ((bj (bJ d) res++ts).map (·.1)) with
           | true=>some (pre,{ aC:=(ids.foldl aj.gone s).aC.set d (jm (bJ d) res),aJ:=bs++(bj (bJ d) res++ts)++ga (m.map (·.2)) (ids.foldl aj.gone s).aJ })
           | false=>none
          | none=>none
         | none=>none
        | none=>none
       | false=>none
      | none=>none
     | none=>none
    | none =>
     match Uk E s d f c.argTypes.toList (c.args.toList.map s.eval) with
     | some r=>some r
     | none =>
      none
   | _=>none
  | _=>none
 | none=>none
def known(v:AV)(K:Prop):Prop :=
 match v with
 | .aO ⟨.int .i64,n⟩=>av n->K
 | .aO ⟨.slice _,xs⟩=>xs.length<=140737488355328->K
 | .aO ⟨.str,xs⟩=>xs.length<=140737488355328->K
 | _=>K
def Qz:Op->Bool
 | .load .. | .field .. | .index .. | .extract .. => true
 | .call c=>match c.callee with
  | .builtin .append=>false
  | _=>true
 | _=>false
def qL:Option Nat->Bool
 | none=>true
 | some d=>Nat.blt d 400000
def AV.stays:AV->Bool
 | .aO v=>match v.τ with
  | .ptr=>false
  | _=>true
 | .cU _=>true
 | _=>false
def a9l:Bool×TV->AV
 | (true,v) => .cU v
 | (false,v) => .aO v
def TM(E:Env)(s:aj)(o:Oper):Option (Vc×AV×Option aB):=match o.op with
 | .call c=>match c.callee with
  | .value (.func f)=>match o.dst with
   | some d=>match kJ E (pX s.ai) c.argTypes.toList (c.args.toList.map s.eval) with
    | some Z9=>match E.PQ f Z9 with
     | some (pre, .box cells)=>some (pre, .ptr d 0,some (.box (cells.map .aO)))
     | some (pre, .row e τ xs)=>some (pre, .row d,some (.row e τ xs))
     | some (pre, .res l)=>match (c.args.toList.map s.eval).all AV.stays with
      | true=>some (pre, .gK (l.map a9l),none)
      | false=>none
     | none=>none
    | none=>none
   | none=>none
  | _=>none
 | _=>none
def jN(E:Env)(o:Oper)(K:aj->Prop)(s:aj):Prop :=
 match qL o.dst with
 | false=>False
 | true =>
 let s:=(jG E s o).foldl aj.freeze s;match Ub E s o with
 | some (vc,s')=>vc.and (K s')
 | none=>match SI E s o with
 | some (vc,s')=>vc.and (K s')
 | none=>match S4 E s o with
 | some (vc,s')=>vc.and (K s')
 | none=>match TQ E s o with
 | some (vc,s')=>vc.and (K s')
 | none=>match TM E s o with
 | some (vc,v,ob)=>vc.and (K (s.lay o.dst v ob))
 | none=>match Hv E s.ai s.eval o with
  | some (vc,v,ob)=>vc.and (match Qz o.op with
   | true=>known v (K (s.lay o.dst v ob))
   | false=>K (s.lay o.dst v ob))
  | none=>False
def uh(ops:Array Oper)(g:Nat):Option Nat:=(ops[g]?).bind (·.dst)
def eP(
      E:Env) (ops:Array Oper):List Oper->List (Nat×Bool)->(aj->Prop)->aj->Prop
 | [],_,Q,s=>Q s
 | o::r,kn,Q,s=>match o.guard with
  | none=>jN E o (eP E ops r kn Q) s
  | some (
      g,want)=>match uh ops g with
   | none=>False
   | some t=>match ai kn t with
    | some b=>match s.eval (.tmp t) with
     | .aO ⟨.bool,b'⟩=>match b' == b,b == want with
      | true,true=>jN E o (eP E ops r kn Q) s
      | true,false=>eP E ops r kn Q (s.put o.dst .dX)
      | false,_=>False
     | .dX=>eP E ops r kn Q (s.put o.dst .dX)
     | _=>False
    | none=>match s.eval (.tmp t) with
     | .aO ⟨.bool,b⟩ =>
      (b=want->jN E o (eP E ops r ((t,want)::kn) Q) (s.put (some t) (.aO ⟨.bool,want⟩))) /\
      (b = !want->eP E ops r ((t,!want)::kn) Q ((s.put (some t) (.aO ⟨.bool,!want⟩)).put o.dst .dX))
     | .dX=>eP E ops r kn Q (s.put o.dst .dX)
     | _=>False
def te(acc:List Nat)(s:Nat)(e:Edge):Nat :=
 match Region.binds .any e with
 | true=>s ||| (1 <<< e.on ||| acc.getD e.on 0)
 | false=>s
def bL:List Oper->List Nat->List Nat
 | [],acc=>acc
 | o::r,acc=>bL r (acc++[o.after.toList.foldl (te acc) 0])
def mq:List Nat->Nat->Nat->Nat
 | [],_,m=>m
 | b::r,i,m=>match Nat.beq (b+1) (2 ^ i) with
  | true=>mq r (i+1) m
  | false=>mq r (i+1) (i+1)
def cq(ops:List Oper)(k:Nat):Option Nat:=(ops[k]?).bind (·.dst)
def hidden(ops:List Oper)(m bits t:Nat):Bool:=(List.range m).any λ k=>match cq ops k with
 | some d=>match Nat.beq d t with
  | true => !Nat.testBit bits k
  | false=>false
 | none=>false
def QN(ops:List Oper)(m bits:Nat)(s:aj):Operand->AV
 | .tmp t=>match hidden ops m bits t with
  | true => .any
  | false=>s.eval (.tmp t)
 | x=>s.eval x
def Nf(ops:List Oper)(m bits:Nat)(s:aj)(id:Nat):Option aB:=match hidden ops m bits id with
 | true=>none
 | false=>s.ai id
def tN:Op->Bool
 | .alloc _ | .box .. | .buildSlice .. | .makeSlice .. | .makeMap .. => true
 | .call c=>match c.callee with
  | .builtin .append=>true
  | _=>false
 | _=>false
def aj.fresh(s:aj)(o:Oper):aj :=
 match tN o.op,o.dst with
 | true,some d=>let s':=s.bU d
  { s' with aJ:=bF d s'.aJ }
 | _,_=>s
def aj.iH(s:aj)(d:Option Nat)(v:AV)(o:Option aB):aj :=
 match d with
 | some d=>{ aC:=s.aC.set d v,aJ:=match o with
  | some o=>(d,o)::s.aJ
  | none=>s.aJ }
 | none=>s
def Ju(E:Env)(ops:List Oper)(m bits:Nat)(o:Oper)(K:aj->Prop)(s:aj):Prop :=
 match jG E s o with
 | []=>match Hv E (Nf ops m bits s) (QN ops m bits s) o with
  | some (vc,v,ob)=>vc.and (K (s.iH o.dst v ob))
  | none=>False
 | _=>False
def lb(
      E:Env) (ops:List Oper) (m:Nat) (bR:List Nat):Nat->List Oper->List (Nat×Bool)->(List (Nat×Bool)->aj->Prop)->aj->Prop
 | _,[],kn,Q,s=>Q kn s
 | i,o::r,kn,Q,s=>match o.guard with
  | none=>Ju E ops m (bR.getD i 0) o (lb E ops m bR (i+1) r kn Q) s
  | some (
      g,want)=>match cq ops g,Nat.testBit (bR.getD i 0) g with
   | some t,true=>match ai kn t with
    | some b=>match s.eval (.tmp t) with
     | .aO ⟨.bool,b'⟩=>match b' == b,b == want with
      | true,true=>Ju E ops m (bR.getD i 0) o (lb E ops m bR (i+1) r kn Q) s
      | true,false=>lb E ops m bR (i+1) r kn Q (s.put o.dst .dX)
      | false,_=>False
     | .dX=>lb E ops m bR (i+1) r kn Q (s.put o.dst .dX)
     | _=>False
    | none=>match s.eval (.tmp t) with
     | .aO ⟨.bool,b⟩ =>
      (b=want->Ju E ops m (bR.getD i 0) o (lb E ops m bR (i+1) r ((t,want)::kn) Q) (s.put (some t) (.aO ⟨.bool,want⟩))) /\
      (b = !want->lb E ops m bR (i+1) r ((t,!want)::kn) Q ((s.put (some t) (.aO ⟨.bool,!want⟩)).put o.dst .dX))
     | .dX=>lb E ops m bR (i+1) r kn Q (s.put o.dst .dX)
     | _=>False
   | _,_=>False
def distinct:List (Option Nat)->Bool
 | []=>true
 | none::_=>false
 | some d::r=>match r.any λ x=>match x with
   | some e=>Nat.beq d e
   | none=>false with
  | true=>false
  | false=>distinct r
def backward(ops:List Oper):Bool:=(List.range ops.length).all λ i=>match ops[i]? with
 | some o=>o.after.toList.all λ e=>match Region.binds .any e with
  | true=>Nat.blt e.on i
  | false=>true
 | none=>true
def tg(ops:List Oper)(s:aj)(K:Prop):Prop :=
 match ops with
 | []=>K
 | o::r=>match Qz o.op,o.dst with
  | true,some d=>known (s.aC.getD d .any) (tg r s K)
  | _,_=>tg r s K
def Pk(bR:List Nat)(p:Nat):Bool:=(bR.drop p).all λ b=>Nat.beq (b % 2 ^ p) (2 ^ p - 1)
def SM(bR:List Nat):List Nat->List Nat
 | []=>[]
 | p::r=>match Pk bR p with
  | true=>p::SM bR r
  | false=>SM bR r
def tO:List (Option Nat)->Bool
 | []=>true
 | none::r=>tO r
 | some d::r=>match r.any λ x=>match x with
   | some e=>Nat.beq d e
   | none=>false with
  | true=>false
  | false=>tO r
def CB(l:List Oper)(lo hi:Nat):Bool :=
 ((
  (l.take hi).drop lo).all λ o=>qL o.dst)&&tO (((l.take hi).drop lo).map (·.dst))&&(l.take lo).all λ o=>match o.dst with
  | none=>true
  | some d => !(((l.take hi).drop lo).any λ p=>match p.dst with
   | some e=>Nat.beq d e
   | none=>false)
def Oper.alone(E:Env)(o:Oper):Bool:=match o.op with
 | .store .. | .mapUpdate .. | .insert .. => true
 | _=>match o.dst with
  | some d=>E.own.contains d
  | none=>false
def vx(u v:TV):Prop:=match u.Z9 v.τ with
 | some x=>x=v.x
 | none=>False
def TS:Op->Option (List Operand)
 | .move x | .assign x | .nilCheck x | .fieldAddr _ x _ | .load _ x | .box _ x | .extract x _=>some [x]
 | .indexAddr _ x i | .store _ x i | .lookup _ x i _=>some [x,i]
 | .mapUpdate _ m k x | .insert _ m k x=>some [m,k,x]
 | .makeMap _ none=>some []
 | .alloc _=>some []
 | .binOp _ _ x y _=>some [x,y]
 | .build _ ps=>some (ps.toList.map (·.2))
 | .buildSlice _ _ ps=>some (ps.toList.map (·.2))
 | .call c=>match c.callee with
  | .value f=>some (f::c.args.toList)
  | .builtin _=>some c.args.toList
  | _=>none
 | .pick c x y=>some [c,x,y]
 | .slice _ x l h m=>some (x::(l.toList++(h.toList++m.toList)))
 | _=>none
def fF(D:List Nat)(o:Oper):Bool:=match TS o.op with
 | some l=>l.all λ x=>match x with
  | .tmp t => !D.contains t
  | _=>true
 | none=>false
def reads:Op->Bool
 | .move _ | .nilCheck _ | .fieldAddr .. | .load .. | .indexAddr .. => true
 | _=>false
def rop(E:Env)(s:aj)(o:Oper):Option (Vc×AV):=match reads o.op with
 | true=>match Hv E s.ai s.eval o with
  | some (vc,v,none)=>some (vc,v)
  | _=>none
 | false=>none
def HV:AV->AV->Prop
 | .aO v, .aO u=>vx v u
 | .cU v, .cU u=>vx v u
 | .aE i, .aE j=>i=j
 | .row i, .row j=>i=j
 | .ptr i p, .ptr j q=>i=j/\p=q
 | .nil, .nil=>True
 | .dX, .dX=>True
 | _,_=>False
def N9:List AV->List AV->Prop
 | [],[]=>True
 | a::Z9,b::bs=>HV a b/\N9 Z9 bs
 | _,_=>False
def SD(a b:AV):Prop:=match a,b with
 | .agg Z9, .agg bs=>N9 Z9 bs
 | a,b=>HV a b
def gB(E:Env):List (Nat×Oper)->aj->Prop->Prop
 | [],_,K=>K
 | r::rs,s,K=>match r.2.dst,rop E s r.2 with
  | some d,some (vc,v)=>vc.and (SD v (s.aC.getD d .any)/\gB E rs s K)
  | _,_=>False
def HW(E:Env):List (Nat×Oper)->(aj->Prop)->aj->Prop
 | [],K,s=>K s
 | r::rs,K,s=>match r.2.dst,rop E s r.2 with
  | some d,some (vc,v)=>vc.and (known v (HW E rs K (s.put (some d) v)))
  | _,_=>False
def dstsOf(R:List (Nat×Oper)):List Nat:=R.filterMap λ r=>r.2.dst
def mj:Op->Bool
 | .alloc _=>true
 | _=>false
def jg:Op->Bool
 | .extract .. => true
 | _=>false
def sT:Op->Bool
 | .buildSlice _ len ps=>Nat.beq len 0&&Nat.beq ps.size 0
 | _=>false
def Dz(E:Env)(o:Oper):Bool:=match o.dst with
 | some d=>E.ro.contains d
 | none=>false
def dm(E:Env)(o:Oper):Bool:=mj o.op||(jg o.op||(sT o.op&&Dz E o))
def pV(E:Env)(X:List (Nat×Oper)):List Nat:=X.filterMap λ x=>match dm E x.2 with
 | true=>x.2.dst
 | false=>none
def vU(s:aj):Op->Bool
 | .extract t i=>match s.eval t with
  | .gK vs=>Nat.blt i vs.length
  | _=>false
 | _=>true
def TH(E:Env)(bR:List Nat)(X:List (Nat×Oper))(s:aj):Bool:=X.all λ e=>vU s e.2.op||X.any λ y => !dm E y.2&&Nat.testBit (bR.getD e.1 0) y.1
def IV(bR:List Nat)(x:Nat×Oper):List (Nat×Oper)->List (Nat×Oper)
 | []=>[x]
 | y::ys=>match Nat.testBit (bR.getD y.1 0) x.1 with
  | true=>x::y::ys
  | false=>y::IV bR x ys
def Hl(E:Env)(bR:List Nat):List (Nat×Oper)->List (Nat×Oper)
 | []=>[]
 | x::xs=>match dm E x.2 with
  | true=>IV bR x (Hl E bR xs)
  | false=>x::Hl E bR xs
def nI(E:Env)(o:Oper):Bool:=match o.op with
 | .alloc T=>o.dst.isSome&&(qL o.dst&&(ai E.ty T).isSome)
 | .extract .. => o.dst.isSome
 | .buildSlice T len ps => !(Nat.beq len 0&&Nat.beq ps.size 0&&Dz E o)||(match o.dst,ai E.ty T with
  | some d,some (.slice _,_)=>Nat.blt d 400000&&(E.ro.contains d && !E.own.contains d)
  | _,_=>false)
 | _=>true
def Ol(E:Env)(bR:List Nat)(X:List (Nat×Oper))(y:Nat×Oper):Bool := !dm E y.2&&X.all λ z=>dm E z.2 || !Nat.testBit (bR.getD y.1 0) z.1
def yf(p:Nat×Oper->Bool)(f:Nat×Oper->Prop):List (Nat×Oper)->Prop
 | []=>True
 | y::ys=>match p y with
  | true=>f y/\yf p f ys
  | false=>yf p f ys
def gQ(E:Env)(bR:List Nat):Nat->List (Nat×Oper)->List (Nat×Oper)->(aj->Prop)->aj->Prop
 | 0,_,X,K,s=>match X with
  | []=>K s
  | _::_=>False
 | n+1,R,X,K,s=>match X with
  | []=>K s
  | x::xs=>match TH E bR (x::xs) s with
   | true=>match fF (dstsOf (R.filter λ r => !Nat.testBit (bR.getD x.1 0) r.1)++pV E xs) x.2&&xs.all λ y=>dm E y.2||Nat.testBit (bR.getD y.1 0) x.1 with
    | true=>jN E x.2 (λ s'=>gB E (R.filter λ r => !Nat.testBit (bR.getD x.1 0) r.1) s' (gQ E bR n (R.filter λ r => !Nat.testBit (bR.getD x.1 0) r.1) xs K s')) s
    | false=>match dm E x.2 with
     | true=>False
     | false=>yf (Ol E bR (x::xs)) (λ y=>match fF (dstsOf (R.filter λ r => !Nat.testBit (bR.getD y.1 0) r.1)++pV E ((x::xs).filter λ z => !Nat.beq z.1 y.1)) y.2 with
      | true=>jN E y.2 (λ s'=>gB E (R.filter λ r => !Nat.testBit (bR.getD y.1 0) r.1) s' (gQ E bR n (R.filter λ r => !Nat.testBit (bR.getD y.1 0) r.1) ((x::xs).filter λ z => !Nat.beq z.1 y.1) K s')) s
      | false=>False) (x::xs)
   | false=>False
def j0:Nat->List Oper->List (Nat×Oper)
 | _,[]=>[]
 | i,o::r=>(i,o)::j0 (i+1) r
def Jr(E:Env)(o:Oper):Bool:=reads o.op&&(match o.dst with
 | some d => !E.own.contains d
 | none=>true)
def lH(E:Env)(bR:List Nat)(eU:List (Nat×Oper))(r:Nat×Oper):Bool :=
 Jr E r.2&&eU.all λ y=>Jr E y.2 || !Nat.testBit (bR.getD r.1 0) y.1
def a2p(E:Env)(bR:List Nat)(eU:List (Nat×Oper)):Bool :=
 (eU.all λ r=>r.2.guard.isNone&&nI E r.2)&&eU.all λ r => !(lH E bR eU r||jg r.2.op)||fF (dstsOf (eU.filter λ y => !Nat.testBit (bR.getD r.1 0) y.1)++bif jg r.2.op then pV E eU else []) r.2
def Yl(E:Env)(bR:List Nat)(eU:List (Nat×Oper))(K:aj->Prop)(s:aj):Prop :=
 match a2p E bR eU with
 | true=>HW E (eU.filter (lH E bR eU)) (λ s'=>gB E (eU.filter (lH E bR eU)) s' (gQ E bR eU.length (eU.filter (lH E bR eU)) (Hl E bR (eU.filter λ r => !lH E bR eU r)) K s')) s
 | false=>False
def tI(E:Env)(ops:Array Oper)(l:List Oper)(bR:List Nat):List Nat->Nat->List (Nat×Bool)->(aj->Prop)->aj->Prop
 | [],lo,_,Q,s=>match Nat.beq lo l.length with
  | true=>Q s
  | false=>False
 | hi::r,lo,kn,Q,s=>match Pk bR hi&&(Pk bR lo&&(Nat.blt lo hi&&Nat.ble hi l.length)) with
  | true=>match Nat.beq hi (lo+1) with
   | true=>eP E ops ((l.take hi).drop lo) kn (tI E ops l bR r hi kn Q) s
   | false=>match CB l lo hi,((l.take hi).drop lo).any (Oper.alone E) with
    | true,true=>Yl E bR (j0 lo ((l.take hi).drop lo)) (tI E ops l bR r hi kn Q) s
    | true,false=>lb E l hi bR lo ((l.take hi).drop lo) kn (λ kn s=>tg ((l.take hi).drop lo) s (tI E ops l bR r hi kn Q s)) (((l.take hi).drop lo).foldl aj.fresh s)
    | false,_=>False
  | false=>False
def Ob(E:Env)(ops:Array Oper)(Q:aj->Prop)(s:aj):Prop :=
 let l:=ops.toList
 let bR:=bL l []
 let m:=mq bR 0 0
 match ((l.take m).all λ o=>qL o.dst)&&(distinct ((l.take m).map (·.dst))&&backward l) with
 | true=>lb E l m bR 0 (l.take m) [] (λ kn s=>tg (l.take m) s (eP E ops (l.drop m) kn Q s)) ((l.take m).foldl aj.fresh s)
 | false=>False
def JY(E:Env)(ops:Array Oper)(Q:aj->Prop)(s:aj):Prop :=
 let l:=ops.toList
 let bR:=bL l []
 match (l.take (mq bR 0 0)).any (Oper.alone E) with
 | false=>Ob E ops Q s
 | true=>match backward l with
  | true=>tI E ops l bR (SM bR ((List.range l.length).map (·+1))) 0 [] Q s
  | false=>False
def Ux(E:Env)(ops:Array Oper)(Q:aj->Prop)(s:aj):Prop:=JY E ops Q s
inductive aP:Type 1 where
 | none
 | mk (ι:Type) (P:ι->Prop) (μ:ι->Nat) (fz dead:List Nat) (ins:ι->List (Nat×AV)) (aM:List Nat) (os:ι->List (Nat×aB)) (R5 ren:List (Nat×Nat)) (sub:ι->Nat->aP)
def aP.a(ι:Type)(P:ι->Prop)(μ:ι->Nat)(dead:List Nat)(ins:ι->List (Nat×AV))(aM:List Nat)(os:ι->List (Nat×aB)):aP := .mk ι P μ [] dead ins aM os [] [] λ _ _ => .none
def aP.b(ι:Type)(P:ι->Prop)(μ:ι->Nat)(dead:List Nat)(ins:ι->List (Nat×AV)):aP := .mk ι P μ [] dead ins [] (λ _=>[]) [] [] λ _ _ => .none
def aP.u(P:Prop)(dead:List Nat)(ins:List (Nat×AV))(aM:List Nat)(os:List (Nat×aB))(sub:Nat->aP):aP := .mk Unit (λ _=>P) (λ _=>0) [] dead (λ _=>ins) aM (λ _=>os) [] [] λ _=>sub
def eR(k:Nat)(X:aP)(r:Nat->aP)(z:Nat):aP:=match Nat.beq z k with
 | true=>X
 | false=>r z
def cw:Nat->aP:=λ _ => .none
def Code.zy:Code->List Nat
 | .region _ ops _=>ops.toList.filterMap (·.dst)
 | .seq a b=>Code.zy a++Code.zy b
 | .cond _ a b=>Code.zy a++Code.zy b
 | .block _ c=>Code.zy c
 | .loop c=>Code.zy c
 | .scope c=>Code.zy c
 | _=>[]
def Code.first:Code->Option Nat
 | .region id _ _=>some id
 | .seq a _=>Code.first a
 | .block _ c=>Code.first c
 | .loop c=>Code.first c
 | .cond _ a _=>Code.first a
 | .ret=>some 500000
 | _=>none
def Code.a3W(Λ:Nat->aP)(b:Code):aP:=match Code.first b with
 | some r=>Λ (r+100000)
 | none => .none
def Zb(sl:List AV):List (Nat×AV)->List AV
 | []=>sl
 | (t,v)::r=>Zb (sl.set t v) r
def KG(aM:List Nat):List (Nat×aB)->List (Nat×aB)
 | []=>[]
 | (k,o)::r=>match aM.contains k with
  | true=>(k,o)::KG aM r
  | false=>KG aM r
def pw(s:aj)(zy:List Nat)(ins:List (Nat×AV))(aM:List Nat)(os:List (Nat×aB)):aj :=
 { aC:=Zb (zy.foldl (λ l t=>l.set t .any) s.aC) ins,aJ:=os++KG aM s.aJ }
def di(ρ:List (Nat×Nat))(id:Nat):Nat:=match ai ρ id with
 | some k=>k
 | none=>id
def isRow:Option aB->Bool
 | some (.row ..)=>true
 | _=>false
def fI:Option aB->Bool
 | some (.box _)=>true
 | _=>false
def Ha:Option aB->Bool
 | some (.map _)=>true
 | _=>false
def AV.ss(ρ:List (Nat×Nat))(s t:aj)(a b:AV):Prop :=
 match b with
 | .any=>True
 | .aO v=>match a with
  | .aO u=>vx u v
  | .nil=>match v with
   | ⟨.slice _,xs⟩=>xs=[]
   | _=>False
  | _=>False
 | .nil=>match a with
  | .nil=>True
  | _=>False
 | .cU v=>match a with
  | .cU u=>vx u v
  | _=>False
 | .ptr id off=>match a with
  | .ptr i o=>match Nat.beq i (di ρ id)&&Nat.beq o off&&fI (t.ai id) with
   | true=>True
   | false=>False
  | _=>False
 | .row id=>match a with
  | .row i=>match Nat.beq i (di ρ id)&&isRow (t.ai id) with
   | true=>True
   | false=>False
  | .nil=>match isRow (t.ai id),s.ai (di ρ id) with
   | true,Option.none=>True
   | _,_=>False
  | _=>False
 | .aE id=>match a with
  | .aE i=>match Nat.beq i (di ρ id)&&cS (t.ai id) with
   | true=>True
   | false=>False
  | .nil=>match cS (t.ai id),s.ai (di ρ id) with
   | true,Option.none=>True
   | _,_=>False
  | _=>False
 | .fn f=>match a with
  | .fn g=>match Nat.beq f g with
   | true=>True
   | false=>False
  | _=>False
 | .mp id=>match a with
  | .mp i=>match Nat.beq i (di ρ id)&&Ha (t.ai id) with
   | true=>True
   | false=>False
  | _=>False
 | _=>False
def Fk(ρ:List (Nat×Nat))(s t:aj):List AV->List AV->Prop
 | [],[]=>True
 | a::Z9,b::bs=>match b with
  | .any=>Fk ρ s t Z9 bs
  | b=>AV.ss ρ s t a b/\Fk ρ s t Z9 bs
 | _,_=>False
def AV.a4S(ρ:List (Nat×Nat))(s t:aj)(a b:AV):Prop :=
 match a,b with
 | .agg Z9, .agg bs=>Fk ρ s t Z9 bs
 | a,b=>AV.ss ρ s t a b
def UQ(ρ:List (Nat×Nat))(s t:aj):List AV->List AV->Prop
 | [],[]=>True
 | a::Z9,b::bs=>match b with
  | .any=>UQ ρ s t Z9 bs
  | b=>AV.a4S ρ s t a b/\UQ ρ s t Z9 bs
 | _,_=>False
def Yy(u v:FV):Prop:=match u.Z9 v.ps v.r with
 | some F=>F=v.F
 | none=>False
def AV.fit(ρ:List (Nat×Nat))(s t:aj)(a b:AV):Prop :=
 match a,b with
 | .cP f Z9, .cP g bs=>match Nat.beq f g with
  | true=>UQ ρ s t Z9 bs
  | false=>False
 | .gR u, .gR v=>Yy u v
 | .agg Z9, .agg bs=>Fk ρ s t Z9 bs
 | .agg Z9, .aO v=>match sO (λ _=>none) v.τ (.agg Z9) with
  | some x=>x=v.x
  | none=>False
 | a,b=>AV.ss ρ s t a b
def yi(ρ:List (Nat×Nat))(s t:aj):List AV->List AV->Prop
 | [],[]=>True
 | a::Z9,b::bs=>match b with
  | .any=>yi ρ s t Z9 bs
  | b=>AV.fit ρ s t a b/\yi ρ s t Z9 bs
 | _,_=>False
def toO(x:J):mr:=⟨x.ah,x.aX,some x.U⟩
def Ui(aW:Ty)(ys:List aW.den)(τ:Ty)(xs:List τ.den):Prop :=
 match decide (τ = .st .oExpr),decide (aW = .st .expr) with
 | true,true=>vx ⟨.slice (.st .oExpr),((show Option (List J) from TV.Z9 (.slice (.st .expr)) ⟨.slice aW,ys⟩).getD []).map toO⟩ ⟨.slice τ,xs⟩
 | _,_=>vx ⟨.slice aW,ys⟩ ⟨.slice τ,xs⟩
def Xv(a b:MV):Prop:=match a.Z9 b.κ b.ε with
 | some (f,n)=>f=b.f/\n=b.n
 | none=>False
def jv(ρ:List (Nat×Nat))(s t:aj):List (Nat×aB)->Prop
 | []=>True
 | (id, .box bs)::r=>match s.ai (di ρ id) with
  | some (.box Z9)=>Fk ρ s t Z9 bs/\jv ρ s t r
  | _=>False
 | (id, .row e τ xs)::r=>match s.ai (di ρ id) with
  | some (.row e' aW ys)=>match Nat.beq e e' with
   | true=>vx ⟨.slice aW,ys⟩ ⟨.slice τ,xs⟩/\jv ρ s t r
   | false=>False
  | Option.none=>xs=[]/\jv ρ s t r
  | _=>False
 | (id, .aE τ xs)::r=>match s.ai (di ρ id) with
  | some (.aE aW ys)=>Ui aW ys τ xs/\jv ρ s t r
  | Option.none=>xs=[]/\jv ρ s t r
  | _=>False
 | (id, .map m)::r=>match s.ai (di ρ id) with
  | some (.map m')=>Xv m' m/\jv ρ s t r
  | _=>False
def Fits(ρ:List (Nat×Nat))(s t:aj):Prop :=
 match (nodupB (t.aJ.map (·.1))&&nodupB (t.aJ.map λ p=>di ρ p.1))&&t.aJ.all (λ p=>Nat.blt p.1 50||(Nat.ble 100 p.1||(Nat.beq (di ρ p.1) p.1&&cS (s.ai p.1))))&&t.aJ.all (λ p=>Nat.blt p.1 400000||(!fI (some p.2)||(Nat.beq (di ρ p.1) p.1&&fI (s.ai p.1)))) with
 | true=>yi ρ s t s.aC t.aC/\jv ρ s t t.aJ
 | false=>False
def a2D(ρ:List (Nat×Nat))(a b:AV):List (Nat×Nat):=match b with
 | .aE k=>match a with
  | .aE i=>match Nat.beq i (di ρ k) with
   | true=>[]
   | false=>[(k,i)]
  | _=>[]
 | _=>[]
def XH(ρ:List (Nat×Nat)):List AV->List AV->List (Nat×Nat)
 | a::Z9,b::bs=>a2D ρ a b++XH ρ Z9 bs
 | _,_=>[]
def a6V(ρ:List (Nat×Nat))(a b:AV):List (Nat×Nat):=match b with
 | .agg bs=>match a with
  | .agg Z9=>XH ρ Z9 bs
  | _=>[]
 | b=>a2D ρ a b
def P2(ρ:List (Nat×Nat)):List AV->List AV->List (Nat×Nat)
 | a::Z9,b::bs=>a6V ρ a b++P2 ρ Z9 bs
 | _,_=>[]
def D9(ρ:List (Nat×Nat))(s:aj):List (Nat×aB)->List (Nat×Nat)
 | []=>[]
 | (id, .box bs)::r=>match s.ai (di ρ id) with
  | some (.box Z9)=>XH ρ Z9 bs++D9 ρ s r
  | _=>D9 ρ s r
 | _::r=>D9 ρ s r
def S8:List (Nat×Nat)->(List (Nat×Nat)->Prop)->Prop
 | [],K=>K []
 | (a,b)::r,K=>S8 r λ r'=>K ((a,b)::r')
def It:∀ {l:List (Nat×Nat)} {K:List (Nat×Nat)->Prop},S8 l K->K l
 | [],_,h=>h
 | (a,b)::r,K,h=>It (l:=r) (K:=λ r'=>K ((a,b)::r')) h
def NW(ρ:List (Nat×Nat))(s t:aj):Prop:=S8 (D9 ρ s t.aJ++P2 ρ s.aC t.aC) λ r=>Fits (r++ρ) s t
def NW.ex{ρ:List (Nat×Nat)}{s t:aj}(h:NW ρ s t):∃ r,Fits (r++ρ) s t:=⟨_,It h⟩
def ql(E:Env):Code->(Nat->aP)->Nat->(Exit->aj->Prop)->aj->Prop
 | .skip,_,_,Q,s=>Q .normal s
 | .region _ ops draw,_,_,Q,s=>match draw with
  | true=>Ux E ops (Q .normal) s
  | false=>eP E ops ops.toList [] (Q .normal) s
 | .seq a b,Λ,cur,Q,s=>match Code.a3W Λ b with
  | .none=>ql E a Λ cur (λ e s'=>match e with
   | .normal=>ql E b Λ cur Q s'
   | e=>Q e s') s
  | .mk ι P _ fz dead ins aM os R5 _ sub =>
   let zy:=dead++Code.zy a;ql E a Λ cur (λ e s'=>match e with
    | .normal=>∃ j:ι,P j/\NW R5 (fz.foldl aj.freeze s') (pw s zy (ins j) aM (os j))
    | e=>Q e s') s /\
   ∀ i:ι,P i->ql E b (sub i) cur Q (pw s zy (ins i) aM (os i))
 | .cond c a b,Λ,cur,Q,s=>match s.eval c with
  | .aO ⟨.bool,t⟩=>(t=true->ql E a Λ cur Q s)/\(t=false->ql E b Λ cur Q s)
  | _=>False
 | .block id c,Λ,_,Q,s=>ql E c Λ id (λ e s'=>match e with
  | .exit i=>match Nat.beq i id with
   | true=>Q .normal s'
   | false=>Q (.exit i) s'
  | e=>Q e s') s
 | .loop c,Λ,cur,Q,s=>match Λ cur with
  | .none=>False
  | .mk ι P μ fz dead ins aM os R5 ren sub =>
   let zy:=dead++Code.zy c;(∃ i:ι,P i/\NW R5 (fz.foldl aj.freeze s) (pw s zy (ins i) aM (os i))) /\
   ∀ i:ι,P i->ql E c (sub i) cur (λ e s'=>match e with
    | .normal=>∃ j:ι,P j/\μ j<μ i/\NW ren (fz.foldl aj.freeze s') (pw s zy (ins j) aM (os j))
    | e=>Q e s') (pw s zy (ins i) aM (os i))
 | .exit id,_,_,Q,s=>Q (.exit id) s
 | .ret,_,_,Q,s=>Q .ret s
 | .label _,_,_,Q,s=>Q .normal s
 | _,_,_,_,_=>False
def La(E:Env)(s:aj):List ResultVar->List TypeId->Option (List TV)
 | [],[]=>some []
 | r::rs,T::Ts=>match ai E.ty T with
  | some (τ,_)=>match (match r with
    | .tmp t=>sO (Jf s.ai) τ (s.eval (.tmp t))
    | .cell a t=>match Nat.beq t T with
     | true=>deref (Jf s.ai) τ (s.eval (.tmp a))
     | false=>none) with
   | some x=>match La E s rs Ts with
    | some l=>some (⟨τ,x⟩::l)
    | none=>none
   | none=>none
  | none=>none
 | _,_=>none
def xe:Arg->AV
 | .val v => .aO v
 | .ref v => .cU v
 | .fn f => .fn f
 | .cP v => .gR v
 | .own _ => .any
 | .box _ => .any
def dK(fn:Func)(args:List Arg):aj :=
 { aC:=args.map xe++List.replicate (fn.ntmps - args.length) .any,aJ:=[] }
def pQ:Nat->List Arg->aj->aj
 | _,[],s=>s
 | p, .own v::r,s=>pQ (p+1) r { aC:=s.aC.set p (iw (1000000+100 * p) v),aJ:=bP (1000000+100 * p) v.cells++s.aJ }
 | p,_::r,s=>pQ (p+1) r s
def Jz(fn:Func)(args:List Arg):aj:=pQ 0 args (dK fn args)
def ub(E:Env)(fn:Func)(post:List TV->Prop)(e:Exit)(s:aj):Prop :=
 match e with
 | .ret | .normal=>match La E s fn.results.toList fn.resultTypes.toList with
  | some vs=>post vs
  | none=>False
 | _=>False
def qI:List TV->List TV->Prop
 | [],[]=>True
 | [v],[u]=>vx v u
 | v::vs,u::us=>vx v u/\qI vs us
 | _,_=>False
end
def bo(w:World)(b o:Nat)(cs:List Value):Prop:=∀ j v,cs[j]?=some v->w.cell? ⟨b,o+j,none⟩=some v
def D.size:D->Nat
 | .agg ds=>ds.length
 | _=>1
mutual
def Rd(w:World)(S:Nat->Prop):D->List Value->Prop
 | .int k n,cs=>cs=[.int k n]/\k.min<=n/\n<=k.max
 | .bool b,cs=>cs=[.bool b]
 | .str s,cs=>∃ x:ByteArray,cs=[.string x]/\x.data.toList=s/\x.size<=140737488355328
 | .slice _ xs,cs=>∃ a cap,cs=[.slice a xs.length cap]/\xs.length<=cap/\cap<=maxLen/\xs.length<=140737488355328/\(xs=[]\/∃ b o,a=some ⟨b,o,none⟩/\S b/\df w S xs b o)
 | .agg ds,cs=>cQ w S ds cs
 | .hole,cs=>∃ a n m,cs=[.slice a n m]
 | .ptr,cs=>∃ p,cs=[.pointer p]
def cQ(w:World)(S:Nat->Prop):List D->List Value->Prop
 | [],cs=>cs=[]
 | d::ds,cs=>∃ v r,cs=v::r/\Rd w S d [v]/\cQ w S ds r
def df(w:World)(S:Nat->Prop):List D->Nat->Nat->Prop
 | [],_,_=>True
 | d::ds,b,o=>(∃ cs,cs.length=d.size/\Rd w S d cs/\bo w b o cs)/\df w S ds b (o+d.size)
end
def bo.aM{w w':World}{b o:Nat}{cs:List Value}(h:bo w b o cs)(hb:w'.heap[b]?=w.heap[b]?):bo w' b o cs :=
 λ j v hj=>by rw[<-h j v hj];exact b3u (a:=⟨b,o+j,none⟩) hb
mutual
def Rd.aM{w w':World}{S S':Nat->Prop}(hS:∀ b,S b->S' b)(hw:∀ b,S b->w'.heap[b]?=w.heap[b]?):∀ (d:D) {cs:List Value},Rd w S d cs->Rd w' S' d cs
 | .int _ _,_,h=>h
 | .bool _,_,h=>h
 | .str _,_,h=>h
 | .slice _ xs,_,h=>by
  obtain⟨a,cap,h1,h2,h3,h4,h5⟩:=h;refine⟨a,cap,h1,h2,h3,h4,h5.imp id ?_⟩;rintro⟨b,o,ha,hb,hr⟩;exact⟨b,o,ha,hS b hb,df.aM hS hw xs b o hb hr⟩
 | .agg ds,_,h=>cQ.aM hS hw ds h
 | .hole,_,h=>h
 | .ptr,_,h=>h
def cQ.aM{w w':World}{S S':Nat->Prop}(hS:∀ b,S b->S' b)(hw:∀ b,S b->w'.heap[b]?=w.heap[b]?):∀ (ds:List D) {cs:List Value},cQ w S ds cs->cQ w' S' ds cs
 | [],_,h=>h
 | d::ds,_,h=>by
  obtain⟨v,r,h1,h2,h3⟩:=h;exact⟨v,r,h1,Rd.aM hS hw d h2,cQ.aM hS hw ds h3⟩
def df.aM{w w':World}{S S':Nat->Prop}(hS:∀ b,S b->S' b)(hw:∀ b,S b->w'.heap[b]?=w.heap[b]?):∀ (ds:List D) (b o:Nat),S b->df w S ds b o->df w' S' ds b o
 | [],_,_,_,_=>trivial
 | d::ds,b,o,hb,h=>by
  obtain⟨⟨cs,h1,h2,h3⟩,h4⟩:=h;exact⟨⟨cs,h1,Rd.aM hS hw d h2,h3.aM (hw b hb)⟩,df.aM hS hw ds b _ hb h4⟩
end
def cQ.length{w:World}{S:Nat->Prop}:∀ (ds:List D) {cs:List Value},cQ w S ds cs->cs.length=ds.length
 | [],_,h=>by rw[show _=[] from h];rfl
 | d::ds,_,h=>by
  obtain⟨v,r,rfl,_,h3⟩:=h;simp[cQ.length ds h3]
def Rd.length{w:World}{S:Nat->Prop}(d:D){cs:List Value}(h:Rd w S d cs):cs.length=d.size:=by
 cases d with
 | int k n=>rw[h.1];rfl
 | bool b=>rw[show cs=_ from h];rfl
 | str s=>obtain⟨x,h,_⟩:=h;rw[h];rfl
 | slice n xs=>obtain⟨a,cap,h,_⟩:=h;rw[h];rfl
 | agg ds=>exact cQ.length ds h
 | hole=>obtain⟨a,n,m,h⟩:=h;rw[h];rfl
 | ptr=>obtain⟨p,h⟩:=h;rw[h];rfl
def Ty.cz(t:Ty)(x:t.den):(t.aK x).size=t.size:=by
 cases t with
 | st s=>simp[Ty.aK,aL.bX,D.size,Ty.size,aL.fV]
 | mv t=>cases (show Option (List t.den) from x)<;>rfl
 | _=>rfl
def df.at_{w:World}{S:Nat->Prop}{n:Nat}:∀ (ds:List D) (b o:Nat),df w S ds b o->(∀ d∈ds,d.size=n)->∀ i d,ds[i]?=some d ->
  ∃ cs,cs.length=n/\Rd w S d cs/\bo w b (o+i * n) cs
 | [],_,_,_,_,i,d,h=>by simp at h
 | e::ds,b,o,h,hn,0,d,hi=>by
  obtain⟨⟨cs,h1,h2,h3⟩,_⟩:=h;simp at hi;subst hi;exact⟨cs,by rw[h1];exact hn _ (by simp),h2,by simpa using h3⟩
 | e::ds,b,o,h,hn,i+1,d,hi=>by
  obtain⟨_,h4⟩:=h;rw[hn e (by simp)] at h4;obtain⟨cs,h1,h2,h3⟩:=df.at_ ds b (o+n) h4 (λ d hd=>hn d (by simp[hd])) i d (by simpa using hi);exact⟨cs,h1,h2,by rw[show o+(i+1) * n=o+n+i * n by rw[Nat.add_mul];omega];exact h3⟩
def df.a1b{w:World}{S:Nat->Prop}{n:Nat}:∀ (k:Nat) (ds:List D) (b o:Nat),df w S ds b o->(∀ d∈ds,d.size=n)->df w S (ds.drop k) b (o+k * n)
 | 0,ds,b,o,h,_=>by simpa using h
 | k+1,[],b,o,h,_=>by simp[df]
 | k+1,d::ds,b,o,h,hn=>by
  have:=df.a1b k ds b (o+n) (by have:=h.2;rwa [hn d (by simp)] at this) (λ d hd=>hn d (by simp[hd]));rw[show o+(k+1) * n=o+n+k * n by rw[b1Q];omega];exact this
def df.a3o{w:World}{S:Nat->Prop}:∀ (k:Nat) (ds:List D) (b o:Nat),df w S ds b o->df w S (ds.take k) b o
 | 0,ds,b,o,h=>by simp[df]
 | k+1,[],b,o,h=>by simp[df]
 | k+1,d::ds,b,o,h=>⟨h.1,df.a3o k ds b _ h.2⟩
def dj(w:World)(S:Nat->Prop):List D->List Value->Prop
 | [],l=>l=[]
 | d::ds,l=>∃ c r,l=c++r/\Rd w S d c/\dj w S ds r
def dj.aM{w w':World}{S S':Nat->Prop}(hS:∀ b,S b->S' b)(hw:∀ b,S b->w'.heap[b]?=w.heap[b]?):∀ (ds:List D) {l:List Value},dj w S ds l->dj w' S' ds l
 | [],_,h=>h
 | d::ds,_,h=>by
  obtain⟨c,r,h1,h2,h3⟩:=h;exact⟨c,r,h1,Rd.aM hS hw d h2,dj.aM hS hw ds h3⟩
def dj.append{w:World}{S:Nat->Prop}:∀ (ds es:List D) {l m:List Value},dj w S ds l->dj w S es m->dj w S (ds++es) (l++m)
 | [],_,_,_,h,k=>by rw[show _=[] from h];simpa using k
 | d::ds,es,_,m,h,k=>by
  obtain⟨c,r,rfl,h2,h3⟩:=h;exact⟨c,r++m,by simp,h2,dj.append ds es h3 k⟩
def dj.length{w:World}{S:Nat->Prop}{n:Nat}:∀ (ds:List D) {l:List Value},dj w S ds l->(∀ d∈ds,d.size=n)->l.length=ds.length * n
 | [],_,h,_=>by rw[show _=[] from h];simp
 | d::ds,_,h,hn=>by
  obtain⟨c,r,rfl,h2,h3⟩:=h;rw[b0Y,Rd.length d h2,hn d (by simp),dj.length ds h3 (λ d hd=>hn d (by simp[hd])),b0W,b1Q];omega
def dj.row{w:World}{S:Nat->Prop}:∀ (ds:List D) {l:List Value} (b o:Nat),dj w S ds l->bo w b o l->df w S ds b o
 | [],_,_,_,_,_=>trivial
 | d::ds,_,b,o,h,hc=>by
  obtain⟨c,r,rfl,h2,h3⟩:=h;refine⟨⟨c,Rd.length d h2,h2,λ j v hj=>hc j v ?_⟩,dj.row ds b _ h3 λ j v hj=>?_⟩
  .rw[b1R]
   .exact hj
   .exact (b1h.1 hj).1
  .have:=hc (c.length+j) v (by rw[List.getElem?_append_right (by omega)];simpa using hj);rwa [Rd.length d h2,<-Nat.add_assoc] at this
def df.cells{w:World}{S:Nat->Prop}:∀ (ds:List D) (b o:Nat),df w S ds b o->∃ l,dj w S ds l/\bo w b o l
 | [],_,_,_=>⟨[],rfl,λ j v h=>by simp at h⟩
 | d::ds,b,o,h=>by
  obtain⟨⟨c,h1,h2,h3⟩,h4⟩:=h;obtain⟨r,h5,h6⟩:=df.cells ds b _ h4;refine⟨c++r,⟨c,r,rfl,h2,h5⟩,λ j v hj=>?_⟩;rcases b1w j c.length with bz|Tn
  .exact h3 j v (by rwa [b1R bz] at hj)
  .rw[b2H Tn] at hj;have:=h6 (j - c.length) v hj;rwa [<-h1,show o+c.length+(j - c.length)=o+j by omega] at this
def dj.at_{w:World}{S:Nat->Prop}{n:Nat}:∀ (ds:List D) {l:List Value},dj w S ds l->(∀ d∈ds,d.size=n)->∀ i d,ds[i]?=some d->Rd w S d ((l.drop (i * n)).take n)
 | [],_,_,_,i,d,h=>by simp at h
 | e::ds,_,h,hn,0,d,hi=>by
  obtain⟨c,r,rfl,h2,h3⟩:=h;simp at hi;subst hi;have:c.length=n:=by rw[Rd.length _ h2];exact hn _ (by simp)
  simpa [<-this] using h2
 | e::ds,_,h,hn,i+1,d,hi=>by
  obtain⟨c,r,rfl,h2,h3⟩:=h;have hc:c.length=n:=by rw[Rd.length _ h2];exact hn _ (by simp)
  have:=dj.at_ ds h3 (λ d hd=>hn d (by simp[hd])) i d (by simpa using hi);have h0:List.drop (n+i * n) c=[]:=List.drop_eq_nil_of_le (by omega);rw[show (i+1) * n=n+i * n by rw[Nat.add_mul];omega,List.drop_append,h0,List.nil_append,show n+i * n - c.length=i * n by omega];exact this
def rN:Value->Bool
 | .int .. | .bool _ | .string _ | .slice .. | .pointer _=>true
 | _=>false
def D.leaf:D->Bool
 | .agg _=>false
 | _=>true
def Rd.rN{w:World}{S:Nat->Prop}{d:D}(hd:d.leaf=true){cs:List Value}(h:Rd w S d cs):∃ v,cs=[v]/\YtofnjfpeimhifaaGreatDoor.rN v=true:=by
 cases d with
 | int k n=>exact⟨_,h.1,rfl⟩
 | bool b=>exact⟨_,h,rfl⟩
 | str s=>obtain⟨x,h,_⟩:=h;exact⟨_,h,rfl⟩
 | slice n xs=>obtain⟨a,cap,h,_⟩:=h;exact⟨_,h,rfl⟩
 | agg ds=>cases hd
 | hole=>obtain⟨a,n,m,h⟩:=h;exact⟨_,h,rfl⟩
 | ptr=>obtain⟨p,h⟩:=h;exact⟨_,h,rfl⟩
def wQ{v:Value}(h:YtofnjfpeimhifaaGreatDoor.rN v=true):v.oneCell'=true:=by cases v<;>first|rfl|cases h
def I4{v:Value}(h:YtofnjfpeimhifaaGreatDoor.rN v=true):v.cells = #[v]:=by cases v<;>first|rfl|cases h
def KX{α:Type}(n:Nat)(f:α->D)(o:Option (List α)):(mvD n f o).leaf=true:=by cases o<;>rfl
def aL.ns(s:aL)(x:s.den):∀ v∈s.cells x,v.aK.leaf=true:=by
 cases s<;>simp[aL.cells,TV.aK,Ty.aK,D.leaf]<;>exact KX _ _ _
mutual
def Ow(w:World):D->List Value->List Nat->Prop
 | .int k n,cs,fp=>(cs=[.int k n]/\k.min<=n/\n<=k.max)/\fp=[]
 | .bool b,cs,fp=>cs=[.bool b]/\fp=[]
 | .str s,cs,fp=>(∃ x:ByteArray,cs=[.string x]/\x.data.toList=s/\x.size<=140737488355328)/\fp=[]
 | .slice n xs,cs,fp=>∃ a cap,cs=[.slice a xs.length cap]/\xs.length<=cap/\cap<=maxLen/\xs.length<=140737488355328 /\
   ((xs=[]/\(a=none/\cap=0)/\fp=[])\/∃ b f l t,a=some ⟨b,0,none⟩/\fp=b::f/\w.heap[b]?=some (.cells l.toArray t (0,0))/\l.length=cap * n/\bN w xs l f)
 | .agg ds,cs,fp=>cY w ds cs fp
 | .hole,cs,fp=>(∃ a n m,cs=[.slice a n m])/\fp=[]
 | .ptr,cs,fp=>(∃ p,cs=[.pointer p])/\fp=[]
def cY(w:World):List D->List Value->List Nat->Prop
 | [],cs,fp=>cs=[]/\fp=[]
 | d::ds,cs,fp=>∃ v r f1 f2,cs=v::r/\fp=f1++f2/\Ow w d [v] f1/\cY w ds r f2
def bN(w:World):List D->List Value->List Nat->Prop
 | [],_,fp=>fp=[]
 | d::ds,l,fp=>∃ c r f1 f2,l=c++r/\fp=f1++f2/\Ow w d c f1/\bN w ds r f2
end
def cY.length{w:World}:∀ (ds:List D) {cs:List Value} {fp:List Nat},cY w ds cs fp->cs.length=ds.length
 | [],_,_,h=>by rw[h.1];rfl
 | d::ds,_,_,h=>by
  obtain⟨v,r,f1,f2,rfl,_,_,h4⟩:=h;simp[cY.length ds h4]
def Ow.length{w:World}(d:D){cs:List Value}{fp:List Nat}(h:Ow w d cs fp):cs.length=d.size:=by
 cases d with
 | int k n=>rw[h.1.1];rfl
 | bool b=>rw[h.1];rfl
 | str s=>obtain⟨⟨x,h,_⟩,_⟩:=h;rw[h];rfl
 | slice n xs=>obtain⟨a,cap,h,_⟩:=h;rw[h];rfl
 | agg ds=>exact cY.length ds h
 | hole=>obtain⟨⟨a,n,m,h⟩,_⟩:=h;rw[h];rfl
 | ptr=>obtain⟨⟨p,h⟩,_⟩:=h;rw[h];rfl
def Ck{w:World}{b:Nat}{p c r:List Value}{t:TypeId}(h:w.heap[b]?=some (.cells (p++(c++r)).toArray t (0,0))):bo w b p.length c:=by
 intro j v hj;have hl:j<c.length:=(b1h.1 hj).1;have h2:(p++(c++r))[p.length+j]?=some v:=by
  rw[b2H (by omega),b3j,b1R hl];exact hj
 simp[World.cell?,h,h2]
mutual
def Ow.rd{w:World}{S:Nat->Prop}:∀ (d:D) {cs:List Value} {fp:List Nat},Ow w d cs fp->(∀ b∈fp,S b)->Rd w S d cs
 | .int _ _,_,_,h,_=>h.1
 | .bool _,_,_,h,_=>h.1
 | .str _,_,_,h,_=>h.1
 | .slice n xs,_,_,h,hS=>by
  obtain⟨a,cap,h1,h2,h3,h4,h5⟩:=h;refine⟨a,cap,h1,h2,h3,h4,h5.imp And.left ?_⟩;rintro⟨b,f,l,t,rfl,rfl,hb,_,hr⟩;exact⟨b,0,rfl,hS b (by simp),bN.rd xs (p:=[]) (by simpa using hb) hr (λ b hb=>hS b (by simp[hb]))⟩
 | .agg ds,_,_,h,hS=>cY.rd ds h hS
 | .hole,_,_,h,_=>h.1
 | .ptr,_,_,h,_=>h.1
def cY.rd{w:World}{S:Nat->Prop}:∀ (ds:List D) {cs:List Value} {fp:List Nat},cY w ds cs fp->(∀ b∈fp,S b)->cQ w S ds cs
 | [],_,_,h,_=>h.1
 | d::ds,_,_,h,hS=>by
  obtain⟨v,r,f1,f2,h1,rfl,h3,h4⟩:=h;exact⟨v,r,h1,Ow.rd d h3 λ b hb=>hS b (by simp[hb]),cY.rd ds h4 λ b hb=>hS b (by simp[hb])⟩
def bN.rd{w:World}{S:Nat->Prop}{b:Nat}{t:TypeId}:∀ (ds:List D) {p l:List Value} {fp:List Nat},w.heap[b]?=some (.cells (p++l).toArray t (0,0))->bN w ds l fp->(∀ b∈fp,S b)->df w S ds b p.length
 | [],_,_,_,_,_,_=>trivial
 | d::ds,p,_,_,hb,h,hS=>by
  obtain⟨c,r,f1,f2,rfl,rfl,h3,h4⟩:=h;have hl:=Ow.length d h3;refine⟨⟨c,hl,Ow.rd d h3 λ b hb=>hS b (by simp[hb]),Ck hb⟩,?_⟩;have:=bN.rd ds (p:=p++c) (l:=r) (by simpa using hb) h4 (λ b hb=>hS b (by simp[hb]));rw[<-hl];simpa using this
end
mutual
def Ow.aM{w w':World}:∀ (d:D) {cs:List Value} {fp:List Nat},Ow w d cs fp->(∀ b∈fp,w'.heap[b]?=w.heap[b]?)->Ow w' d cs fp
 | .int _ _,_,_,h,_=>h
 | .bool _,_,_,h,_=>h
 | .str _,_,_,h,_=>h
 | .slice n xs,_,_,h,hw=>by
  obtain⟨a,cap,h1,h2,h3,h4,h5⟩:=h;refine⟨a,cap,h1,h2,h3,h4,h5.imp id ?_⟩;rintro⟨b,f,l,t,rfl,rfl,hb,hc,hr⟩;exact⟨b,f,l,t,rfl,rfl,by rw[hw b (by simp)];exact hb,hc,bN.aM xs hr λ b hb=>hw b (by simp[hb])⟩
 | .agg ds,_,_,h,hw=>cY.aM ds h hw
 | .hole,_,_,h,_=>h
 | .ptr,_,_,h,_=>h
def cY.aM{w w':World}:∀ (ds:List D) {cs:List Value} {fp:List Nat},cY w ds cs fp->(∀ b∈fp,w'.heap[b]?=w.heap[b]?)->cY w' ds cs fp
 | [],_,_,h,_=>h
 | d::ds,_,_,h,hw=>by
  obtain⟨v,r,f1,f2,h1,rfl,h3,h4⟩:=h;exact⟨v,r,f1,f2,h1,rfl,Ow.aM d h3 λ b hb=>hw b (by simp[hb]),cY.aM ds h4 λ b hb=>hw b (by simp[hb])⟩
def bN.aM{w w':World}:∀ (ds:List D) {l:List Value} {fp:List Nat},bN w ds l fp->(∀ b∈fp,w'.heap[b]?=w.heap[b]?)->bN w' ds l fp
 | [],_,_,h,_=>h
 | d::ds,_,_,h,hw=>by
  obtain⟨c,r,f1,f2,h1,rfl,h3,h4⟩:=h;exact⟨c,r,f1,f2,h1,rfl,Ow.aM d h3 λ b hb=>hw b (by simp[hb]),bN.aM ds h4 λ b hb=>hw b (by simp[hb])⟩
end
mutual
def D.light:D->Bool
 | .slice .. => false
 | .agg ds=>D.D4 ds
 | _=>true
def D.D4:List D->Bool
 | []=>true
 | d::ds=>d.light&&D.D4 ds
end
mutual
def Ow.eK{w:World}{S:Nat->Prop}:∀ (d:D) {cs:List Value},d.light=true->Rd w S d cs->Ow w d cs []
 | .int _ _,_,_,h=>⟨h,rfl⟩
 | .bool _,_,_,h=>⟨h,rfl⟩
 | .str _,_,_,h=>⟨h,rfl⟩
 | .slice n xs,_,hl,h=>by
  obtain⟨a,cap,h1,h2,h3,h4,h5⟩:=h;cases hl
 | .agg ds,_,hl,h=>cY.eK ds hl h
 | .hole,_,_,h=>⟨h,rfl⟩
 | .ptr,_,_,h=>⟨h,rfl⟩
def cY.eK{w:World}{S:Nat->Prop}:∀ (ds:List D) {cs:List Value},D.D4 ds=true->cQ w S ds cs->cY w ds cs []
 | [],_,_,h=>⟨h,rfl⟩
 | d::ds,_,hl,h=>by
  obtain⟨v,r,h1,h2,h3⟩:=h;simp only[D.D4,b0U] at hl;exact⟨v,r,[],[],h1,rfl,Ow.eK d hl.1 h2,cY.eK ds hl.2 h3⟩
end
def bN.eK{w:World}{S:Nat->Prop}:∀ (ds:List D) {l m:List Value},(∀ d∈ds,d.light=true)->dj w S ds l->bN w ds (l++m) []
 | [],_,_,_,_=>rfl
 | d::ds,_,m,hl,h=>by
  obtain⟨c,r,rfl,h2,h3⟩:=h;exact⟨c,r++m,[],[],by simp,rfl,Ow.eK d (hl d (by simp)) h2,bN.eK ds (λ d hd=>hl d (by simp[hd])) h3⟩
def Fb{α:Type}(c r:List α)(k:Nat):(c++r).drop (c.length+k)=r.drop k:=by
 rw[<-b4f,b3d]
def xL{α:Type}(c r:List α)(k:Nat):(c++r).take (c.length+k)=c++r.take k:=by
 rw[b4w,b1I (by omega),b3j]
def bN.split{w:World}{n:Nat}:∀ (ds:List D) {l:List Value} {fp:List Nat} (i:Nat) (d:D),bN w ds l fp->(∀ d∈ds,d.size=n)->ds[i]?=some d ->
  ∃ f0 f1 f2,fp=f0++f1++f2/\i * n+n<=l.length/\Ow w d ((l.drop (i * n)).take n) f1 /\
   ∀ (w':World) (d':D) (c':List Value) (iB:List Nat),(∀ b∈f0++f2,w'.heap[b]?=w.heap[b]?)->c'.length=n->Ow w' d' c' iB->bN w' (ds.set i d') (l.take (i * n)++c'++l.drop (i * n+n)) (f0++iB++f2)
 | [],_,_,_,_,_,_,h=>by simp at h
 | e::ds,l,fp,0,d,h,hn,hi=>by
  obtain⟨c,r,f1,f2,rfl,rfl,h3,h4⟩:=h;simp at hi;subst hi;have hc:c.length=n:=by rw[Ow.length _ h3];exact hn _ (by simp)
  refine⟨[],f1,f2,by simp,by simp;omega,?_,λ w' d' c' iB hw Ko Xa=>?_⟩
  .simp only[b3V,b4g];rw[<-hc,b2S];exact h3
  .simp only[b3V,b2T,b1v,b2l,List.set_cons_zero];rw[<-hc,b3d];exact⟨c',r,iB,f2,rfl,rfl,Xa,bN.aM ds h4 λ b hb=>hw b (by simp[hb])⟩
 | e::ds,l,fp,i+1,d,h,hn,hi=>by
  obtain⟨c,r,g1,g2,rfl,rfl,h3,h4⟩:=h;have hc:c.length=n:=by rw[Ow.length _ h3];exact hn _ (by simp)
  obtain⟨f0,f1,f2,rfl,hlen,k1,k2⟩:=bN.split ds i d h4 (λ d hd=>hn d (by simp[hd])) (by simpa using hi);have e1:(i+1) * n=c.length+i * n:=by rw[hc,Nat.add_mul];omega
  have e2:(i+1) * n+n=c.length+(i * n+n):=by omega
  refine⟨g1++f0,f1,f2,by simp,by simp;omega,?_,λ w' d' c' iB hw Ko Xa=>?_⟩
  .rw[e1,Fb];exact k1
  .rw[e1,show c.length+i * n+n=c.length+(i * n+n) by omega,xL,Fb];have:=k2 w' d' c' iB (λ b hb=>hw b (by simp at hb ⊢;rcases hb with hb|hb<;>simp[hb])) Ko Xa;rw[show (e::ds).set (i+1) d'=e::ds.set i d' from rfl];exact⟨c,r.take (i * n)++c'++r.drop (i * n+n),g1,f0++iB++f2,by simp,by simp,Ow.aM e h3 λ b hb=>hw b (by simp[hb]),this⟩
open Go.MapKept
def nF(τ:Ty)(x:τ.den)(v:Value):Prop:=∀ (w:World) (S:Nat->Prop),Rd w S (τ.aK x) [v]
theorem nF.of{τ:Ty}(eF:τ.key=true){x:τ.den}{v:Value}{w:World}{S:Nat->Prop}(h:Rd w S (τ.aK x) [v]):nF τ x v:=by
 intro w' S';cases τ with
 | int k=>exact h
 | bool=>exact h
 | str=>exact h
 | _=>cases eF
theorem nF.val{τ:Ty}(eF:τ.key=true){x y:τ.den}{v:Value}(h:nF τ x v)(k:nF τ y v)(w:World):x=y:=by
 have h:=h w (λ _=>False);have k:=k w (λ _=>False);cases τ with
 | int q =>
  simp only[Ty.aK,Rd,List.cons.injEq,and_true] at h k;obtain⟨rfl,_⟩:=h;exact (by simpa using k.1)
 | bool =>
  simp only[Ty.aK,Rd,List.cons.injEq,and_true] at h k;subst h;simpa using k
 | str =>
  obtain⟨a,h1,h2,_⟩:=h;obtain⟨b,k1,k2,_⟩:=k;simp only[b0O,b1i] at h1 k1;subst h1;simp only[Value.string.injEq] at k1;subst k1;exact h2.symm.trans k2
 | _=>cases eF
theorem nF.inj{τ:Ty}(eF:τ.key=true){x:τ.den}{v u:Value}(h:nF τ x v)(k:nF τ x u)(w:World):v=u:=by
 have h:=h w (λ _=>False);have k:=k w (λ _=>False);cases τ with
 | int q =>
  simp only[Ty.aK,Rd,b0O,b1i] at h k;exact h.1.trans k.1.symm
 | bool =>
  simp only[Ty.aK,Rd,b0O,b1i] at h k;exact h.trans k.symm
 | str =>
  obtain⟨⟨⟨a⟩⟩,h1,h2,_⟩:=h;obtain⟨⟨⟨b⟩⟩,k1,k2,_⟩:=k;simp only[b0O,b1i] at h1 k1;simp only at h2 k2;rw[h1,k1,h2,k2]
 | _=>cases eF
def zp:(τ:Ty)->τ.den->Value->Prop
 | .st s,x,v=>∃ a b:Int,s.cells x=[⟨.int .i64,a⟩,⟨.int .i64,b⟩]/\v = .agg #[.int .i64 a, .int .i64 b]/\(av a/\av b)
 | τ,x,v=>nF τ x v
theorem zp.sc{τ:Ty}(eF:τ.key=true){x:τ.den}{v:Value}:zp τ x v↔nF τ x v:=by
 cases τ<;>first|exact b2F|cases eF
theorem zp.val{τ:Ty}(eF:τ.Fw=true){x y:τ.den}{v:Value}(h:zp τ x v)(k:zp τ y v)(w:World):x=y:=by
 cases τ with
 | st s =>
  obtain⟨a,b,h1,rfl,_⟩:=h;obtain⟨a',b',k1,k2,_⟩:=k;simp only[b4K,Array.mk.injEq,b0O,Value.int.injEq,b2o,b1i] at k2;obtain⟨rfl,rfl⟩:=k2;simp only[Ty.Fw,b0U] at eF;exact aL.a0H s eF.1 (h1.trans k1.symm)
 | int q=>exact nF.val (τ := .int q) rfl h k w
 | bool=>exact nF.val (τ := .bool) rfl h k w
 | str=>exact nF.val (τ := .str) rfl h k w
 | _=>cases eF
theorem zp.inj{τ:Ty}(eF:τ.Fw=true){x:τ.den}{v u:Value}(h:zp τ x v)(k:zp τ x u)(w:World):v=u:=by
 cases τ with
 | st s =>
  obtain⟨a,b,h1,rfl,_⟩:=h;obtain⟨a',b',k1,rfl,_⟩:=k;rw[h1] at k1;simp only[b0O,TV.mk.injEq,heq_eq_eq,b2o,b1i] at k1;obtain⟨rfl,rfl⟩:=k1;rfl
 | int q=>exact nF.inj (τ := .int q) rfl h k w
 | bool=>exact nF.inj (τ := .bool) rfl h k w
 | str=>exact nF.inj (τ := .str) rfl h k w
 | _=>cases eF
structure HH(P:Program)(kT:TypeId)(κ:Ty):Prop where
 keyed:Go.Maps.Keyed P kT
 of:∀ (x:κ.den) (v:Value),zp κ x v->∃ l,keyOf P kT v=some l
theorem HH.str{P:Program}{k:TypeId}(hk:P.underlying k=some .string)(w:World):HH P k .str:=⟨Go.Maps.string_keyed hk,λ x v h=>by
 obtain⟨s,h1,h2,h4⟩:=h w (λ _=>False);simp only[b0O,b1i] at h1;subst h1;exact⟨_,Go.WideMaps.keyOf_string_mk hk (by simp only[maxLen];omega)⟩⟩
structure vJ(m:MV)(es:Array MapEntry):Prop where
 sk:m.κ.Fw=true
 se:m.ε.key=true
 len:es.size=m.n
 small:m.n<=1000000000
 nd:es.toList.Pairwise λ x y=>x.key≠y.key
 ent:∀ e∈es.toList,∃ k v,zp m.κ k e.key/\nF m.ε v e.val/\m.f k=some v
 all:∀ k v,m.f k=some v->∃ e∈es.toList,zp m.κ k e.key
theorem vJ.empty{κ ε:Ty}(h1:κ.Fw=true)(h2:ε.key=true):vJ ⟨κ,ε,iL κ.den ε.den,0⟩ #[] where
 sk:=h1
 se:=h2
 len:=rfl
 small:=b1G _
 nd:=by simp
 ent e he:=by simp at he
 all k v h:=by simp[iL] at h
section
variable {P:Program} {w:World} {m:MV} {es:Array MapEntry} {clock b:Nat} {T kT eT:TypeId}
theorem vJ.found(h:vJ m es)(K:HH P kT m.κ){k:m.κ.den}{v:Value}(hv:zp m.κ k v)(w:World) :
  ((Instr.findKey kT v es.toList).run P w = .ok none w/\(∀ e∈es.toList,e.key≠v)/\m.f k=none) \/
  ∃ j e x,(Instr.findKey kT v es.toList).run P w = .ok (some (j,e.val)) w/\es.toList[j]?=some e/\e.key=v/\m.f k=some x/\nF m.ε x e.val:=by
 have hk:∀ e∈es.toList,∃ l,keyOf P kT e.key=some l:=λ e he=>by
  obtain⟨k',v',h1,_⟩:=h.ent e he;exact K.of k' _ h1
 obtain⟨lx,QW⟩:=K.of k v hv;rcases K.keyed.find w QW es.toList hk with ⟨h1,h2⟩|⟨j,e,h1,h2,h3⟩
 .refine .inl ⟨h1,h2,?_⟩;cases hf:m.f k with
  | none=>rfl
  | some x =>
   obtain⟨e,he,Xf⟩:=h.all k x hf;exact absurd (Xf.inj h.sk hv w) (h2 e he)
 .obtain⟨k',x,k1,k2,k3⟩:=h.ent e (b1y h2);have:k'=k:=k1.val h.sk (h3 ▸ hv) w;subst this;exact .inr ⟨j,e,x,h1,h2,h3,k3,k2⟩
theorem vJ.ai(h:vJ m es)(hT:P.underlying T=some (.map kT eT))(K:HH P kT m.κ)(hb:w.heap[b]?=some (.map es clock)){z:Value}(hz:(zeroValue eT).run P w = .ok z w)(hzr:nF m.ε m.ε.zero z)
  {k:m.κ.den} {v:Value} (hv:zp m.κ k v) (c:Bool):∃ u,nF m.ε ((m.f k).getD m.ε.zero) u/\(Instr.lookup T (.map (some b)) v c).run P w = .ok (if c then .tuple #[u, .bool (m.f k).isSome] else u) w:=by
 obtain⟨lx,QW⟩:=K.of k v hv;rcases h.found K hv w with ⟨h1,h2,h3⟩|⟨j,e,x,h1,h2,h3,h4,h5⟩
 .refine⟨z,by rw[h3];exact hzr,?_⟩;rw[h3];simp[Instr.lookup,b1A hT,b3p hb,K.keyed.check w _ QW,h1,hz,Result.andThen]
 .refine⟨e.val,by rw[h4];exact h5,?_⟩;rw[h4];simp[Instr.lookup,b1A hT,b3p hb,K.keyed.check w _ QW,h1,Result.andThen]
theorem pD{α β:Type}(f:α->Option β)(k:α)(v:β):fb f k v k=some v:=by simp[fb]
theorem iW{α β:Type}(f:α->Option β)(k:α)(v:β){x:α}(h:x≠k):fb f k v x=f x:=by simp[fb,h]
theorem FJ{α:Type}{R:α->α->Prop}{a b:α}:∀ {l:List α} {j:Nat},l.Pairwise R->l[j]?=some a->(∀ x,R a x->R b x)->(∀ x,R x a->R x b)->(l.set j b).Pairwise R
 | [],j,h,hj,h1,h2=>by simp at hj
 | y::ys,0,h,hj,h1,h2=>by
  simp only[b3L,b0J] at hj;subst hj;obtain⟨k1,k2⟩:=b2s.1 h;exact b2s.2 ⟨λ x hx=>h1 x (k1 x hx),k2⟩
 | y::ys,j+1,h,hj,h1,h2=>by
  obtain⟨k1,k2⟩:=b2s.1 h;simp only[List.getElem?_cons_succ] at hj;refine b2s.2 ⟨λ x hx=>?_,FJ k2 hj h1 h2⟩;rcases List.mem_or_eq_of_mem_set hx with hx|rfl
  .exact k1 x hx
  .exact h2 y (k1 a (b1y hj))
theorem vJ.store(h:vJ m es)(hT:P.underlying T=some (.map kT eT))(K:HH P kT m.κ)(hb:w.heap[b]?=some (.map es clock))
  {k:m.κ.den} {v:Value} (hv:zp m.κ k v) {x:m.ε.den} {u:Value} (hu:nF m.ε x u) (hn:m.n<1000000000) :
  ∃ UL Nw,(Instr.mapUpdate T (.map (some b)) v u).run P w = .ok () { w with heap:=w.heap.setIfInBounds b (.map UL Nw) }/\vJ ⟨m.κ,m.ε,fb m.f k x,gv (m.f k) m.n⟩ UL:=by
 obtain⟨lx,QW⟩:=K.of k v hv;rcases h.found K hv w with ⟨h1,h2,h3⟩|⟨j,e,y,h1,h2,h3,h4,h5⟩
 .refine⟨es.push ⟨v,u,clock⟩,clock+1,?_,?_⟩
  .simp[Instr.mapUpdate,b1A hT,b3p hb,K.keyed.check w _ QW,h1,run_setObj_map _ hb,Result.andThen]
  .refine⟨h.sk,h.se,?_,by simp[gv,h3];omega,?_,?_,?_⟩
   .simp[gv,h3,h.len]
   .simp only[b4o];refine b3W.2 ⟨h.nd,by simp,λ a ha b' cv=>?_⟩;simp only[b0Z] at cv;subst cv;exact h2 a ha
   .intro e he;simp only[b4o,b0K,b0Z] at he;rcases he with he|rfl
    .obtain⟨k',v',k1,k2,k3⟩:=h.ent e he;refine⟨k',v',k1,k2,?_⟩;show fb m.f k x k'=some v';rw[iW _ _ _ (λ e1=>h2 e he ((e1 ▸ k1).inj h.sk hv w))];exact k3
    .exact⟨k,x,hv,hu,pD _ _ _⟩
   .intro k' v' hf;by_cases ZZ:k'=k
    .exact⟨⟨v,u,clock⟩,by simp,by rw[ZZ];exact hv⟩
    .have hf':m.f k'=some v':=by rw[<-iW m.f k x ZZ];exact hf
     obtain⟨e,he,Xf⟩:=h.all k' v' hf';exact⟨e,by simp only[b4o,b0K];exact .inl he,Xf⟩
 .have hj:es[j]?=some e:=by simpa using h2
  have To:(es.modify j (λ e'=>{ e' with key:=v,val:=u })).toList=es.toList.set j { e with key:=v,val:=u }:=by
   rw[Array.toList_modify];apply b4p;intro i;simp only[List.getElem?_modify,List.getElem?_set];by_cases rC:j=i
   .subst rC;have hl:=(b1h.1 h2).1;simp only[b0T,b0T hl];rw[h2];rfl
   .simp[rC]
  refine⟨es.modify j (λ e'=>{ e' with key:=v,val:=u }),clock,?_,?_⟩
  .simp[Instr.mapUpdate,b1A hT,b3p hb,K.keyed.check w _ QW,h1,hj,h3,K.keyed.stays w QW,run_setObj_map _ hb,Result.andThen]
  .have oth:∀ x'∈es.toList.set j { e with key:=v,val:=u },x'={ e with key:=v,val:=u }\/(x'∈es.toList/\x'.key≠v):=by
    intro x' hx;obtain⟨i,hi,ex⟩:=b2R hx;rw[b4x] at ex;split at ex
    .exact .inl ex.symm
    .rename_i dD;have jw:i<es.toList.length:=by simpa using hi
     refine .inr ⟨ex ▸ b2B jw,λ Tw=>?_⟩;have hjl:j<es.toList.length:=(b1h.1 h2).1;have hje:es.toList[j]=e:=(b1h.1 h2).2;have hpw:=List.pairwise_iff_getElem.1 h.nd;rcases Nat.lt_or_gt_of_ne dD with hl|hl
     .exact hpw j i hjl jw hl (by rw[hje,ex,h3,Tw])
     .exact hpw i j jw hjl hl (by rw[hje,ex,h3,Tw])
   refine⟨h.sk,h.se,?_,by simp[gv,h4];omega,?_,?_,?_⟩
   .simp[gv,h4,h.len]
   .rw[To];exact FJ h.nd h2 (λ x' hx=>by rw[<-h3];exact hx) (λ x' hx=>by rw[<-h3];exact hx)
   .intro e' yw;rw[To] at yw;rcases oth e' yw with rfl|⟨he,dD⟩
    .exact⟨k,x,hv,hu,pD _ _ _⟩
    .obtain⟨k',v',k1,k2,k3⟩:=h.ent e' he;refine⟨k',v',k1,k2,?_⟩;show fb m.f k x k'=some v';rw[iW _ _ _ (λ e1=>dD ((e1 ▸ k1).inj h.sk hv w))];exact k3
   .intro k' v' hf;by_cases ZZ:k'=k
    .refine⟨{ e with key:=v,val:=u },?_,(show k'=k from ZZ).symm ▸ hv⟩;rw[To];exact List.mem_iff_getElem.2 ⟨j,by simpa using (List.getElem?_eq_some_iff.1 h2).1,by simp⟩
    .have hf':m.f k'=some v':=by rw[<-iW m.f k x ZZ];exact hf
     obtain⟨e',yw,Xf⟩:=h.all k' v' hf';refine⟨e',?_,Xf⟩;rw[To];obtain⟨i,hi,ex⟩:=b2R yw;have rC:j≠i:=by
      intro e1;subst e1;have hje:es.toList[j]=e:=(b1h.1 h2).2;have:e'=e:=ex ▸ hje;subst this;exact ZZ ((h3 ▸ Xf).val h.sk hv w)
     exact List.mem_iff_getElem.2 ⟨i,by simpa using hi,by rw[List.getElem_set_ne rC];exact ex⟩
end
end Go.Proofs.YtofnjfpeimhifaaGreatDoor

namespace Go.Proofs.YtofnjfpeimhifaaGreatDoor
def aN{α β:Type}(R:α->β->Prop):List α->List β->Prop
 | [],[]=>True
 | a::Z9,b::bs=>R a b/\aN R Z9 bs
 | _,_=>False
theorem aN.length{α β:Type}{R:α->β->Prop}:∀ {Z9:List α} {bs:List β},aN R Z9 bs->Z9.length=bs.length
 | [],[],_=>rfl
 | _::_,_::_,h=>by simp[aN.length h.2]
 | [],_::_,h=>h.elim
 | _::_,[],h=>h.elim
theorem aN.imp{α β:Type}{R R':α->β->Prop}:∀ {Z9:List α} {bs:List β},aN R Z9 bs->(∀ a b,a∈Z9->R a b->R' a b)->aN R' Z9 bs
 | [],[],_,_=>trivial
 | _::_,_::_,h,k=>⟨k _ _ (by simp) h.1,aN.imp h.2 λ a b ha=>k a b (by simp[ha])⟩
 | [],_::_,h,_=>h.elim
 | _::_,[],h,_=>h.elim
theorem aN.at_{α β:Type}{R:α->β->Prop}:∀ {Z9:List α} {bs:List β},aN R Z9 bs->∀ (i:Nat) a,Z9[i]?=some a->∃ b,bs[i]?=some b/\R a b
 | [],[],_,i,a,h=>by simp at h
 | _::_,b::_,h,0,a,hi=>by simp at hi;subst hi;exact⟨b,rfl,h.1⟩
 | _::_,_::_,h,i+1,a,hi=>by simpa using aN.at_ h.2 i a (by simpa using hi)
 | [],_::_,h,_,_,_=>h.elim
 | _::_,[],h,_,_,_=>h.elim
theorem aN.append{α β:Type}{R:α->β->Prop}:∀ {Z9:List α} {bs:List β} {as' bs'},aN R Z9 bs->aN R as' bs'->aN R (Z9++as') (bs++bs')
 | [],[],_,_,_,k=>k
 | _::_,_::_,_,_,h,k=>⟨h.1,aN.append h.2 k⟩
 | [],_::_,_,_,h,_=>h.elim
 | _::_,[],_,_,h,_=>h.elim
theorem aN.take{α β:Type}{R:α->β->Prop}(n:Nat):∀ {Z9:List α} {bs:List β},aN R Z9 bs->aN R (Z9.take n) (bs.take n):=by
 induction n with
 | zero=>intro Z9 bs _;simp[aN]
 | succ n ih =>
  intro Z9 bs h;match Z9,bs,h with
  | [],[],_=>simp[aN]
  | _::_,_::_,h=>exact⟨h.1,ih h.2⟩
theorem aN.drop{α β:Type}{R:α->β->Prop}(n:Nat):∀ {Z9:List α} {bs:List β},aN R Z9 bs->aN R (Z9.drop n) (bs.drop n):=by
 induction n with
 | zero=>intro Z9 bs h;simpa using h
 | succ n ih =>
  intro Z9 bs h;match Z9,bs,h with
  | [],[],_=>simp[aN]
  | _::_,_::_,h=>exact ih h.2
theorem aN.dG{α β γ:Type}{R:γ->β->Prop}(f:α->γ):∀ {Z9:List α} {bs:List β},aN (λ a b=>R (f a) b) Z9 bs->aN R (Z9.map f) bs
 | [],[],_=>trivial
 | _::_,_::_,h=>⟨h.1,aN.dG f h.2⟩
 | [],_::_,h=>h.elim
 | _::_,[],h=>h.elim
theorem aN.of_map{α β γ:Type}{R:γ->β->Prop}(f:α->γ):∀ {Z9:List α} {bs:List β},aN R (Z9.map f) bs->aN (λ a b=>R (f a) b) Z9 bs
 | [],[],_=>trivial
 | _::_,_::_,h=>⟨h.1,aN.of_map f h.2⟩
 | [],_::_,h=>h.elim
 | _::_,[],h=>h.elim
theorem cQ.tF{w:World}{S:Nat->Prop}:∀ {vs:List TV} {cs:List Value},cQ w S (vs.map TV.aK) cs↔aN (λ v x=>Rd w S v.aK [x]) vs cs
 | [],[]=>by simp[cQ,aN]
 | [],_::_=>by simp[cQ,aN]
 | v::vs,[]=>by simp[cQ,aN]
 | v::vs,x::cs=>by
  simp only[b1p,cQ,aN];constructor
  .rintro⟨y,r,h1,h2,h3⟩;simp only[b0O] at h1;obtain⟨rfl,rfl⟩:=h1;exact⟨h2,cQ.tF.1 h3⟩
  .rintro⟨h1,h2⟩;exact⟨x,cs,rfl,h1,cQ.tF.2 h2⟩
structure bK(X:Nat->Prop)(w w':World):Prop where
 os:w'.os=w.os
 tape:w'.tape=w.tape
 output:w'.output=w.output
 size:w.heap.size<=w'.heap.size
 block:∀ b,b<w.heap.size->¬ X b->w'.heap[b]?=w.heap[b]?
theorem bK.refl(X:Nat->Prop)(w:World):bK X w w:=⟨rfl,rfl,rfl,b1d _,λ _ _ _=>rfl⟩
theorem bK.trans{X Y:Nat->Prop}{a b c:World}(h:bK X a b)(k:bK Y b c)(hXY:∀ i,i<a.heap.size->Y i->X i):bK X a c :=
 ⟨k.os.trans h.os,k.tape.trans h.tape,k.output.trans h.output,b2c h.size k.size,
  λ i hi hx=>(k.block i (b0V hi h.size) (λ hy=>hx (hXY i hi hy))).trans (h.block i hi hx)⟩
structure Ctx where
 P:Program
 E:Env
 w0:World
 X:Nat->Prop
 S0:Nat->Prop
 R:Nat->Option Value
 Z:Nat->Prop
 RB:Nat->Option Nat
structure Gh where
 S:Nat->Prop
 η:Nat->Value
 φ:Nat->List Nat
def St(c:Ctx)(S:Nat->Prop)(b:Nat):Prop:=S b\/(b<c.w0.heap.size/\¬ c.X b/\¬ c.Z b)
def dw:Value->Option Nat
 | .pointer (some a)=>some a.block
 | .slice (some a) _ _=>some a.block
 | .map (some b)=>some b
 | _=>none
def dI(w:World)(S:Nat->Prop)(v:TV)(x:Value):Prop :=
 match v with
 | ⟨.st s,y⟩=>∃ cs,x = .agg cs.toArray/\Rd w S (s.aK y) cs
 | v=>Rd w S v.aK [x]
def FU(w:World)(S:Nat->Prop):Arg->Value->Prop
 | .val v,x=>dI w S v x
 | .ref v,x=>∃ b o cs,x = .pointer (some ⟨b,o,none⟩)/\b<w.heap.size/\bo w b o cs/\Rd w S v.aK cs
 | .fn f,x=>x = .func (.func f) #[] #[]
 | .cP _,_=>False
 | .own _,_=>False
 | .box _,_=>False
def E0(w:World)(S:Nat->Prop):List TV->Value->Prop
 | [v],x=>dI w S v x
 | vs,x=>∃ l,x = .tuple l.toArray/\aN (dI w S) vs l
def Gok(w:World)(S:Nat->Prop):Prop:=∀ g∈WZ,S g/\∃ m,w.cell? ⟨g,0,none⟩=some (.int .i64 m)
def iZ(w:World)(S:Nat->Prop):Prop:=(∀ b,S b->b<w.heap.size)/\Gok w S
theorem Gok.mono{w w':World}{S S':Nat->Prop}(h:Gok w S)(hS:∀ b,S b->S' b)(hw:∀ b,S b->w'.heap[b]?=w.heap[b]?):Gok w' S':=λ g hg=>by
 obtain⟨h1,m,h2⟩:=h g hg;exact⟨hS g h1,m,(b3u (a:=⟨g,0,none⟩) (hw g h1)).trans h2⟩
def HJ(P:Program)(f:FuncId)(args:List Arg)(post:List TV->Prop):Prop :=
 ∀ (w:World) (S:Nat->Prop) (bO:List Value),iZ w S->aN (FU w S) args bO ->
  Calls P f bO.toArray w λ e w'=>∃ x S' res,e = .returned x/\post res/\bK (λ _=>False) w w'/\(∀ b,b<w.heap.size->(S' b↔S b))/\(∀ b,S' b->b<w'.heap.size)/\E0 w' S' res x
def jt (P:Program) (f:FuncId):Prop:=∃ fn,P.funcs[f]?=some fn/\fn.body.isNone=false/\(fn.name == "runtime.NumGoroutine")=false
def zm(P:Program)(f:FuncId)(ej:List Arg):(ps:List Ty)->(r:Ty)->FN ps r->List Arg->Prop
 | [],r,F,acc=>F.1->jt P f/\HJ P f (acc++ej) (·=[⟨r,F.2⟩])
 | t::ts,r,F,acc=>∀ x,zm P f ej ts r (F x) (acc++[.val ⟨t,x⟩])
def NU(c:Ctx)(S:Nat->Prop)(w:World):Arg->Value->Prop
 | .val v,x=>dI w S v x
 | .ref v,x=>∃ b o cs,x = .pointer (some ⟨b,o,none⟩)/\St c S b/\bo w b o cs/\Rd w S v.aK cs
 | .fn f,x=>x = .func (.func f) #[] #[]
 | .cP _,_=>False
 | .own _,_=>False
 | .box _,_=>False
def C1(c:Ctx)(G:Gh)(lk:Nat->Option aB)(w:World):AV->Value->Prop
 | .any,_=>True
 | .dX,x=>x=undef
 | .aO v,x=>v.τ.agg=false/\Rd w G.S v.aK [x]
 | .nil,x=>x = .slice none 0 0
 | .cU v,x=>∃ b o cs,x = .pointer (some ⟨b,o,none⟩)/\St c G.S b/\bo w b o cs/\Rd w G.S v.aK cs
 | .ptr id off,x=>∃ b,G.η id = .pointer (some ⟨b,0,none⟩)/\x = .pointer (some ⟨b,off,none⟩)/\fI (lk id)=true
 | .row id,x=>x=G.η id/\isRow (lk id)=true/\∃ a n m,x = .slice a n m
 | .ep id i off,x=>∃ b n cap e τ xs,G.η id = .slice (some ⟨b,0,none⟩) n cap/\lk id=some (.row e τ xs)/\i<xs.length/\x = .pointer (some ⟨b,i * τ.size+off,none⟩)
 | .fn f,x=>x = .func (.func f) #[] #[]
 | .aE id,x=>cS (lk id)=true/\∃ l,G.η id = .tuple (x::l).toArray/\∃ a n m,x = .slice a n m
 | .sub id i off sz,x=>cS (lk id)=true/\∃ a n cap l,G.η id = .tuple (.slice a n cap::l).toArray/\i<n/\l[i * sz+off]?=some x/\∃ a n m,x = .slice a n m
 | .eB id i off sz,x=>cS (lk id)=true/\∃ b n cap l,G.η id = .tuple (.slice (some ⟨b,0,none⟩) n cap::l).toArray/\i<n/\x = .pointer (some ⟨b,i * sz+off,none⟩)
 | .gR v,x=>∃ f ej l,x = .func (.func f) #[] l.toArray/\zm c.P f ej v.ps v.r v.F []/\aN (NU c G.S w) ej l
 | .mp id,x=>x=G.η id/\Ha (lk id)=true/\∃ b,x = .map (some b)
 | .agg _,_=>False
 | .gK _,_=>False
 | .cP ..,_=>False
def TR(c:Ctx)(G:Gh)(lk:Nat->Option aB)(w:World):AV->Value->Prop
 | .any,_=>True
 | .aO v,x=>dI w G.S v x
 | .aE id,x=>C1 c G lk w (.aE id) x
 | .cU v,x=>C1 c G lk w (.cU v) x
 | .agg cs,x=>∃ l,x = .agg l.toArray/\aN (C1 c G lk w) cs l
 | _,_=>False
def CR(c:Ctx)(G:Gh)(lk:Nat->Option aB)(w:World):AV->Value->Prop
 | .aO v,x=>dI w G.S v x
 | .agg cs,x=>∃ l,x = .agg l.toArray/\aN (C1 c G lk w) cs l
 | v,x=>C1 c G lk w v x
def VR(c:Ctx)(G:Gh)(lk:Nat->Option aB)(w:World):AV->Value->Prop
 | .aO v,x=>dI w G.S v x
 | .agg cs,x=>∃ l,x = .agg l.toArray/\aN (C1 c G lk w) cs l
 | .gK vs,x=>∃ l,x = .tuple l.toArray/\aN (TR c G lk w) vs l
 | .cP f cs,x=>∃ l,x = .func (.func f) #[] l.toArray/\aN (CR c G lk w) cs l
 | v,x=>C1 c G lk w v x
def OR(c:Ctx)(G:Gh)(lk:Nat->Option aB)(w:World)(id:Nat):aB->Prop
 | .box cs=>∃ b l t,G.η id = .pointer (some ⟨b,0,none⟩)/\w.heap[b]?=some (.cells l.toArray t (0,0))/\aN (C1 c G lk w) cs l
 | .row e τ xs=>∃ l,w.ownsRow 0 e τ.size (G.η id) xs.length l/\dj w G.S (xs.map τ.aK) l/\xs.length<=140737488355328
 | .aE τ xs=>True
 | .map m=>∃ b es clock,G.η id = .map (some b)/\w.heap[b]?=some (.map es clock)/\vJ m es
def ij(w:World)(η:Value)(τ:Ty)(xs:List τ.den)(fp:List Nat):Prop :=
 ∃ v l a cap,η = .tuple (v::l).toArray/\v = .slice a xs.length cap/\xs.length<=cap/\cap<=maxLen/\xs.length<=140737488355328 /\
  ((xs=[]/\(a=none/\cap=0)/\fp=[])\/∃ b f t,a=some ⟨b,0,none⟩/\fp=b::f/\w.heap[b]?=some (.cells l.toArray t (0,0))/\l.length=cap * τ.size/\bN w (xs.map τ.aK) l f)
structure FZ(c:Ctx)(G:Gh)(lk:Nat->Option aB)(w:World):Prop where
 tr:∀ id τ xs,lk id=some (.aE τ xs)->ij w (G.η id) τ xs (G.φ id)
 nd:∀ id τ xs,lk id=some (.aE τ xs)->(G.φ id).Nodup
 pl:∀ id τ xs b,lk id=some (.aE τ xs)->b∈G.φ id->(c.w0.heap.size<=b\/c.X b)/\¬ G.S b/\b<w.heap.size/\∀ i o,lk i=some o->dw (G.η i)≠some b
 ap:∀ id dt τ aW xs cK b,lk id=some (.aE τ xs)->lk dt=some (.aE aW cK)->b∈G.φ id->b∈G.φ dt->id=dt
def XGk(c:Ctx):Prop:=(∀ b,c.X b->b<c.w0.heap.size)/\∀ g∈WZ,c.S0 g/\¬ c.X g/\g<c.w0.heap.size/\∃ m,c.w0.cell? ⟨g,0,none⟩=some (.int .i64 m)
structure bh(c:Ctx)(G:Gh)(sl:Nat->AV)(n:Nat)(lk:Nat->Option aB)(a:Act)(w:World):Prop where
 defers:a.defers=[]
 size:a.tmps.size=n
 aM:bK c.X c.w0 w
 iQ:XGk c
 eh:∀ b,b<c.w0.heap.size->¬ c.X b->(G.S b↔c.S0 b)
 sX:∀ b,c.S0 b->G.S b
 dE:∀ b,G.S b->b<w.heap.size
 aC:∀ i,VR c G lk w (sl i) (a.tmps.getD i undef)
 aJ:∀ id o,lk id=some o->OR c G lk w id o
 place:∀ id o b,lk id=some o->dw (G.η id)=some b->(c.w0.heap.size<=b\/c.X b)/\¬ G.S b/\b<w.heap.size
 apart:∀ id dt o o' b,lk id=some o->lk dt=some o'->dw (G.η id)=some b->dw (G.η dt)=some b->id=dt
 aR:FZ c G lk w
 root:∀ id v,c.R id=some v->cS (lk id)=true->∃ l,G.η id = .tuple (v::l).toArray
 fP:∀ id v,c.R id=some v->50<=id/\id<100
 dq:∀ id b,c.RB id=some b->fI (lk id)=true->G.η id = .pointer (some ⟨b,0,none⟩)
 eG:∀ id b,c.RB id=some b->400000<=id
theorem bh.XV{c:Ctx}{G:Gh}{sl:Nat->AV}{n:Nat}{lk:Nat->Option aB}{a:Act}{w:World}(h:bh c G sl n lk a w):iZ w G.S:=⟨h.dE,λ g hg=>by
 obtain⟨h1,h2,h3,m,h4⟩:=h.iQ.2 g hg;exact⟨h.sX g h1,m,(b3u (a:=⟨g,0,none⟩) (h.aM.block g h3 h2)).trans h4⟩⟩
def aj.sl(s:aj)(i:Nat):AV:=s.aC.getD i .any
def Inv(c:Ctx)(G:Gh)(s:aj)(a:Act)(w:World):Prop:=bh c G s.sl s.aC.length s.ai a w
theorem pZ{o:Option aB}(h:isRow o=true):cS o=false:=by
 match o,h with
 | some (.row ..),_=>rfl
theorem FB{o:Option aB}(h:Ha o=true):cS o=false:=by
 match o,h with
 | some (.map _),_=>rfl
def ew(o o':Option aB):Prop :=
 (fI o=true->fI o'=true)/\(∀ e τ xs,o=some (.row e τ xs)->∃ e' cK,o'=some (.row e' τ cK)/\xs.length<=cK.length)/\(cS o=true->cS o'=true)/\(Ha o=true->Ha o'=true)
theorem ew.refl(o:Option aB):ew o o:=⟨id,λ e τ xs h=>⟨e,xs,h,b1d _⟩,id,id⟩
theorem ew.isRow{o o':Option aB}(h:ew o o')(hr:isRow o=true):YtofnjfpeimhifaaGreatDoor.isRow o'=true:=by
 match o,hr with
 | some (.row e τ xs),_ =>
  obtain⟨e',cK,h1,_⟩:=h.2.1 e τ xs rfl;rw[h1];rfl
section
variable {c:Ctx} {G G':Gh} {lk lk':Nat->Option aB} {w w':World}
theorem dI.mono{v:TV}{x:Value}(h:dI w G.S v x)(hS:∀ b,G.S b->G'.S b)(hw:∀ b,G.S b->w'.heap[b]?=w.heap[b]?):dI w' G'.S v x:=by
 obtain⟨τ,y⟩:=v;cases τ with
 | st s =>
  obtain⟨cs,h1,h2⟩:=h;exact⟨cs,h1,Rd.aM hS hw _ h2⟩
 | _=>exact Rd.aM hS hw _ h
theorem NU.mono{S S':Nat->Prop}{v:Arg}{x:Value}(h:NU c S w v x)(hS:∀ b,S b->S' b)(hw:∀ b,St c S b->w'.heap[b]?=w.heap[b]?):NU c S' w' v x:=by
 cases v with
 | val v=>exact dI.mono (G:=⟨S,λ _=>undef,λ _=>[]⟩) (G':=⟨S',λ _=>undef,λ _=>[]⟩) h hS (λ b hb=>hw b (.inl hb))
 | ref v =>
  obtain⟨b,o,cs,h1,h2,h3,h4⟩:=h;exact⟨b,o,cs,h1,h2.imp (hS b) id,h3.aM (hw b h2),Rd.aM hS (λ b hb=>hw b (.inl hb)) _ h4⟩
 | fn f=>exact h
 | cP v=>exact h
 | own v=>exact h
 | box k=>exact h
theorem C1.mono{v:AV}{x:Value}(h:C1 c G lk w v x)(hk:∀ id,v.refs id=true->ew (lk id) (lk' id)/\G'.η id=G.η id)
  (hS:∀ b,G.S b->G'.S b) (hw:∀ b,St c G.S b->w'.heap[b]?=w.heap[b]?):C1 c G' lk' w' v x:=by
 have yB:∀ b,G.S b->w'.heap[b]?=w.heap[b]?:=λ b hb=>hw b (.inl hb);cases v with
 | any=>trivial
 | dX=>exact h
 | aO v=>exact⟨h.1,Rd.aM hS yB _ h.2⟩
 | nil=>exact h
 | cU v =>
  obtain⟨b,o,cs,h1,h2,h3,h4⟩:=h;exact⟨b,o,cs,h1,h2.imp (hS b) id,h3.aM (hw b h2),Rd.aM hS yB _ h4⟩
 | ptr id off =>
  obtain⟨b,h1,h2,h3⟩:=h;obtain⟨k1,k2⟩:=hk id (by simp[AV.refs]);exact⟨b,k2.trans h1,h2,k1.1 h3⟩
 | row id =>
  obtain⟨h1,h2,h3⟩:=h;obtain⟨k1,k2⟩:=hk id (by simp[AV.refs]);exact⟨h1.trans k2.symm,k1.isRow h2,h3⟩
 | ep id i off =>
  obtain⟨b,n,cap,e,τ,xs,h1,h2,h3,h4⟩:=h;obtain⟨k1,k2⟩:=hk id (by simp[AV.refs]);obtain⟨e',cK,k3,k4⟩:=k1.2.1 e τ xs h2;exact⟨b,n,cap,e',τ,cK,k2.trans h1,k3,by omega,h4⟩
 | fn f=>exact h
 | aE id =>
  obtain⟨h1,l,h2,h3⟩:=h;obtain⟨k1,k2⟩:=hk id (by simp[AV.refs]);exact⟨k1.2.2.1 h1,l,k2.trans h2,h3⟩
 | sub id i off sz =>
  obtain⟨h1,a,n,cap,l,h2,h3⟩:=h;obtain⟨k1,k2⟩:=hk id (by simp[AV.refs]);exact⟨k1.2.2.1 h1,a,n,cap,l,k2.trans h2,h3⟩
 | eB id i off sz =>
  obtain⟨h1,b,n,cap,l,h2,h3⟩:=h;obtain⟨k1,k2⟩:=hk id (by simp[AV.refs]);exact⟨k1.2.2.1 h1,b,n,cap,l,k2.trans h2,h3⟩
 | gR v =>
  obtain⟨f,ej,l,h1,h2,h3⟩:=h;exact⟨f,ej,l,h1,h2,h3.imp λ u y _ hy=>hy.mono hS hw⟩
 | mp id =>
  obtain⟨h1,h2,h3⟩:=h;obtain⟨k1,k2⟩:=hk id (by simp[AV.refs]);exact⟨h1.trans k2.symm,k1.2.2.2 h2,h3⟩
 | agg cs=>exact h
 | gK vs=>exact h
 | cP f cs=>exact h
theorem kG{id:Nat}:∀ {cs:List AV} {v:AV},v∈cs->v.refs id=true->AV.fL id cs=true
 | u::r,v,hm,hv=>by
  simp only[AV.fL];rcases b0X.1 hm with rfl|h
  .rw[hv]
  .split
   .rfl
   .exact kG h hv
theorem CR.mono{v:AV}{x:Value}(h:CR c G lk w v x)(hk:∀ id,v.refs id=true->ew (lk id) (lk' id)/\G'.η id=G.η id)
  (hS:∀ b,G.S b->G'.S b) (hw:∀ b,St c G.S b->w'.heap[b]?=w.heap[b]?):CR c G' lk' w' v x:=by
 cases v with
 | aO v=>exact dI.mono h hS (λ b hb=>hw b (.inl hb))
 | agg cs =>
  obtain⟨l,h1,h2⟩:=h;exact⟨l,h1,h2.imp λ u y hu hy=>hy.mono (λ id aU=>hk id (by simp only[AV.refs];exact kG hu aU)) hS hw⟩
 | any=>trivial
 | dX=>exact h
 | nil=>exact C1.mono (v := .nil) h hk hS hw
 | cU v=>exact C1.mono (v := .cU v) h hk hS hw
 | ptr i o=>exact C1.mono (v := .ptr i o) h hk hS hw
 | row i=>exact C1.mono (v := .row i) h hk hS hw
 | ep i k o=>exact C1.mono (v := .ep i k o) h hk hS hw
 | fn f=>exact C1.mono (v := .fn f) h hk hS hw
 | aE i=>exact C1.mono (v := .aE i) h hk hS hw
 | sub i k o z=>exact C1.mono (v := .sub i k o z) h hk hS hw
 | eB i k o z=>exact C1.mono (v := .eB i k o z) h hk hS hw
 | gR v=>exact C1.mono (v := .gR v) h hk hS hw
 | mp i=>exact C1.mono (v := .mp i) h hk hS hw
 | gK _=>exact h
 | cP _ _=>exact h
theorem VR.mono{v:AV}{x:Value}(h:VR c G lk w v x)(hk:∀ id,v.refs id=true->ew (lk id) (lk' id)/\G'.η id=G.η id)
  (hS:∀ b,G.S b->G'.S b) (hw:∀ b,St c G.S b->w'.heap[b]?=w.heap[b]?):VR c G' lk' w' v x:=by
 have yB:∀ b,G.S b->w'.heap[b]?=w.heap[b]?:=λ b hb=>hw b (.inl hb);cases v with
 | aO v=>exact dI.mono h hS yB
 | agg cs =>
  obtain⟨l,h1,h2⟩:=h;exact⟨l,h1,h2.imp λ u y hu hy=>hy.mono (λ id aU=>hk id (by simp only[AV.refs];exact kG hu aU)) hS hw⟩
 | gK vs =>
  obtain⟨l,h1,h2⟩:=h;refine⟨l,h1,h2.imp λ u y hu hy=>?_⟩;have eX:∀ id,u.refs id=true->ew (lk id) (lk' id)/\G'.η id=G.η id:=λ id aU=>hk id (by simp only[AV.refs];exact kG hu aU);cases u with
  | any=>trivial
  | aO v=>exact dI.mono hy hS yB
  | aE i=>exact C1.mono (v := .aE i) hy eX hS hw
  | cU v=>exact C1.mono (v := .cU v) hy eX hS hw
  | agg cs =>
   obtain⟨l,h1,h2⟩:=hy;exact⟨l,h1,h2.imp λ u y hu hy=>hy.mono (λ id aU=>eX id (by simp only[AV.refs];exact kG hu aU)) hS hw⟩
  | _=>exact hy.elim
 | dX=>trivial
 | any=>trivial
 | nil=>exact C1.mono (v := .nil) h hk hS hw
 | cU v=>exact C1.mono (v := .cU v) h hk hS hw
 | ptr i o=>exact C1.mono (v := .ptr i o) h hk hS hw
 | row i=>exact C1.mono (v := .row i) h hk hS hw
 | ep i k o=>exact C1.mono (v := .ep i k o) h hk hS hw
 | fn f=>exact C1.mono (v := .fn f) h hk hS hw
 | aE i=>exact C1.mono (v := .aE i) h hk hS hw
 | sub i k o z=>exact C1.mono (v := .sub i k o z) h hk hS hw
 | eB i k o z=>exact C1.mono (v := .eB i k o z) h hk hS hw
 | gR v=>exact C1.mono (v := .gR v) h hk hS hw
 | mp i=>exact C1.mono (v := .mp i) h hk hS hw
 | cP f cs =>
  obtain⟨l,h1,h2⟩:=h;exact⟨l,h1,h2.imp λ u y hu hy=>hy.mono (λ id aU=>hk id (by simp only[AV.refs];exact kG hu aU)) hS hw⟩
def aB.refs(id:Nat):aB->Bool
 | .box cs=>AV.fL id cs
 | .row .. => false
 | .aE .. => false
 | .map .. => false
theorem pK{v:Value}{e:TypeId}{size n:Nat}{l:List Value}(h:w.ownsRow 0 e size v n l):v.ownBlock=dw v:=by
 rcases h.2 with ⟨rfl,_⟩|⟨g,cap,cur,rfl,_⟩<;>rfl
theorem FI{e:TypeId}{size n:Nat}{v:Value}{l:List Value}(h:w.ownsRow 0 e size v n l)(hb:∀ b,dw v=some b->w'.heap[b]?=w.heap[b]?):w'.ownsRow 0 e size v n l:=by
 refine⟨h.1,h.2.imp id ?_⟩;rintro⟨g,cap,cur,rfl,h1,h2,h3⟩;exact⟨g,cap,cur,rfl,h1,by rw[hb g rfl];exact h2,h3⟩
theorem OR.mono{id:Nat}{o:aB}(h:OR c G lk w id o)(eY:G'.η id=G.η id)(hb:∀ b,dw (G.η id)=some b->w'.heap[b]?=w.heap[b]?)
  (hk:∀ j,o.refs j=true->ew (lk j) (lk' j)/\G'.η j=G.η j) (hS:∀ b,G.S b->G'.S b) (hw:∀ b,St c G.S b->w'.heap[b]?=w.heap[b]?):OR c G' lk' w' id o:=by
 cases o with
 | box cs =>
  obtain⟨b,l,t,h1,h2,h3⟩:=h;refine⟨b,l,t,eY.trans h1,?_,h3.imp λ u y hu hy=>hy.mono (λ j hj=>hk j (kG hu hj)) hS hw⟩;rw[hb b (by rw[h1];rfl)];exact h2
 | row e τ xs =>
  obtain⟨l,h1,h2,h3⟩:=h;refine⟨l,?_,dj.aM hS (λ b hb=>hw b (.inl hb)) _ h2,h3⟩;rw[eY];exact FI h1 hb
 | aE τ xs=>trivial
 | map m =>
  obtain⟨b,es,clock,h1,h2,h3⟩:=h;exact⟨b,es,clock,eY.trans h1,by rw[hb b (by rw[h1];rfl)];exact h2,h3⟩
end
theorem ij.aM{w w':World}{η:Value}{τ:Ty}{xs:List τ.den}{fp:List Nat}(h:ij w η τ xs fp)(hw:∀ b∈fp,w'.heap[b]?=w.heap[b]?):ij w' η τ xs fp:=by
 obtain⟨v,l,a,cap,h1,h2,h3,h4,h5,h6⟩:=h;refine⟨v,l,a,cap,h1,h2,h3,h4,h5,h6.imp id ?_⟩;rintro⟨b,f,t,k1,rfl,k2,k0,k3⟩;exact⟨b,f,t,k1,rfl,by rw[hw b (by simp)];exact k2,k0,bN.aM _ k3 λ b hb=>hw b (by simp[hb])⟩
theorem bh.world{c:Ctx}{G:Gh}{sl:Nat->AV}{n:Nat}{lk:Nat->Option aB}{a:Act}{w w':World}{S':Nat->Prop}(h:bh c G sl n lk a w)
  (hJ:bK (λ b=>c.w0.heap.size<=b\/c.X b) w w') (hS:∀ b,G.S b->S' b) (a1y:∀ b,b<w.heap.size->(S' b↔G.S b)) (hX:∀ b,c.S0 b->S' b) (hLt:∀ b,S' b->b<w'.heap.size)
  (hw:∀ b,St c G.S b->w'.heap[b]?=w.heap[b]?) (jx:∀ id o b,lk id=some o->dw (G.η id)=some b->w'.heap[b]?=w.heap[b]?) (oF:∀ id τ xs b,lk id=some (.aE τ xs)->b∈G.φ id->w'.heap[b]?=w.heap[b]?) :
  bh c ⟨S',G.η,G.φ⟩ sl n lk a w' where
 defers:=h.defers
 size:=h.size
 aM:=h.aM.trans hJ λ i hi hy=>hy.elim (λ h=>by omega) id
 iQ:=h.iQ
 eh b hb hx:=(a1y b (b0V hb h.aM.size)).trans (h.eh b hb hx)
 sX:=hX
 dE:=hLt
 aC i:=(h.aC i).mono (λ id _=>⟨ew.refl _,rfl⟩) hS hw
 aJ id o ho:=(h.aJ id o ho).mono rfl (λ b hb=>jx id o b ho hb) (λ j _=>⟨ew.refl _,rfl⟩) hS hw
 place id o b ho hb:=by
  obtain⟨h1,h2,h3⟩:=h.place id o b ho hb;exact⟨h1,λ hs=>h2 ((a1y b h3).1 hs),b0V h3 hJ.size⟩
 apart:=h.apart
 aR:={
  tr:=λ id τ xs ht=>(h.aR.tr id τ xs ht).aM λ b hb=>oF id τ xs b ht hb
  nd:=h.aR.nd
  pl:=λ id τ xs b ht hb=>by
   obtain⟨h1,h2,h3,h4⟩:=h.aR.pl id τ xs b ht hb;exact⟨h1,λ hs=>h2 ((a1y b h3).1 hs),b0V h3 hJ.size,h4⟩
  ap:=h.aR.ap }
 root:=h.root
 fP:=h.fP
 dq:=h.dq
 eG:=h.eG
theorem bh.drew{c:Ctx}{G:Gh}{sl:Nat->AV}{n:Nat}{lk:Nat->Option aB}{a:Act}{w:World}(h:bh c G sl n lk a w):bh c G sl n lk a w.drew :=
 h.world (S':=G.S) ⟨rfl,rfl,rfl,b1d _,λ _ _ _=>rfl⟩ (λ _ h=>h) (λ _ _=>b2F) h.sX h.dE (λ _ _=>rfl) (λ _ _ _ _ _=>rfl) (λ _ _ _ _ _ _=>rfl)
def iY(n:Nat)(sl:Nat->AV)(d:Option Nat)(v:AV)(i:Nat):AV:=if d=some i/\i<n then v else sl i
theorem eb(a:Act)(d:Option Nat)(x:Value)(i:Nat):(a.put d x).tmps.getD i undef=if d=some i/\i<a.tmps.size then x else a.tmps.getD i undef:=by
 cases d with
 | none=>simp[Act.put]
 | some d =>
  simp only[Act.put,b0J];by_cases h:d=i
  .subst h;by_cases hl:d<a.tmps.size
   .simp[hl,b1t]
   .simp[hl,b1t,Array.setIfInBounds]
  .simp[h,b1t,b4h]
theorem gh(a:Act)(d:Option Nat)(x:Value):(a.put d x).tmps.size=a.tmps.size:=by cases d<;>simp[Act.put]
theorem iS(a:Act)(d:Option Nat)(x:Value):(a.put d x).defers=a.defers:=by cases d<;>rfl
theorem bh.put{c:Ctx}{G:Gh}{sl:Nat->AV}{n:Nat}{lk:Nat->Option aB}{a:Act}{w:World}(h:bh c G sl n lk a w){d:Option Nat}{v:AV}{x:Value}(hv:VR c G lk w v x) :
  bh c G (iY n sl d v) n lk (a.put d x) w where
 defers:=(iS _ _ _).trans h.defers
 size:=(gh _ _ _).trans h.size
 aM:=h.aM
 iQ:=h.iQ
 eh:=h.eh
 sX:=h.sX
 dE:=h.dE
 aC i:=by
  rw[eb,h.size,iY];split
  .exact hv
  .exact h.aC i
 aJ:=h.aJ
 place:=h.place
 apart:=h.apart
 aR:=h.aR
 root:=h.root
 fP:=h.fP
 dq:=h.dq
 eG:=h.eG
theorem bh.forget{c:Ctx}{G:Gh}{sl sl':Nat->AV}{n:Nat}{lk:Nat->Option aB}{a:Act}{w:World}(h:bh c G sl n lk a w)(hs:∀ i,sl' i=sl i\/sl' i = .any):bh c G sl' n lk a w where
 defers:=h.defers
 size:=h.size
 aM:=h.aM
 iQ:=h.iQ
 eh:=h.eh
 sX:=h.sX
 dE:=h.dE
 aC i:=by
  rcases hs i with e|e
  .rw[e];exact h.aC i
  .rw[e];trivial
 aJ:=h.aJ
 place:=h.place
 apart:=h.apart
 aR:=h.aR
 root:=h.root
 fP:=h.fP
 dq:=h.dq
 eG:=h.eG
theorem Vq(id:Nat)(v:AV):v.kill id=v\/v.kill id = .any:=by unfold AV.kill;split<;>simp
theorem Al(id:Nat)(v:AV):(v.kill id).refs id=false:=by
 unfold AV.kill;split
 .rfl
 .assumption
theorem C1.kill{c:Ctx}{G:Gh}{lk:Nat->Option aB}{w:World}{v:AV}{x:Value}(h:C1 c G lk w v x)(id:Nat):C1 c G lk w (v.kill id) x:=by
 rcases Vq id v with e|e
 .rw[e];exact h
 .rw[e];trivial
theorem Dy(id:Nat):∀ cs:List AV,AV.fL id (cs.map (AV.kill id))=false
 | []=>rfl
 | v::r=>by simp only[b1p,AV.fL,Al];exact Dy id r
theorem OR.kill{c:Ctx}{G:Gh}{lk:Nat->Option aB}{w:World}{i:Nat}{o:aB}(h:OR c G lk w i o)(id:Nat):OR c G lk w i (o.kill id):=by
 cases o with
 | box cs =>
  obtain⟨b,l,t,h1,h2,h3⟩:=h;exact⟨b,l,t,h1,h2,aN.dG _ (h3.imp λ u y _ hy=>hy.kill id)⟩
 | row e τ xs=>exact h
 | aE τ xs=>exact h
 | map m=>exact h
theorem HA(id:Nat)(o:Option aB):ew o (o.map (aB.kill id)):=by
 refine⟨λ h=>?_,λ e τ xs h=>⟨e,xs,by rw[h];rfl,b1d _⟩,λ h=>?_,λ h=>?_⟩
 .match o,h with
  | some (.box cs),_=>rfl
 .match o,h with
  | some (.aE τ xs),_=>rfl
 .match o,h with
  | some (.map m),_=>rfl
theorem iJ{id:Nat}{o:Option aB}{τ:Ty}{xs:List τ.den}(h:o.map (aB.kill id)=some (.aE τ xs)):o=some (.aE τ xs):=by
 match o,h with
 | some (.aE aW cK),h=>exact h
 | some (.box _),h=>cases h
 | some (.row ..),h=>cases h
theorem FZ.sub{c:Ctx}{G:Gh}{lk lk':Nat->Option aB}{w:World}(h:FZ c G lk w)(ht:∀ id τ xs,lk' id=some (.aE τ xs)->lk id=some (.aE τ xs))(ho:∀ i o,lk' i=some o->∃ o',lk i=some o'):FZ c G lk' w where
 tr id τ xs k:=h.tr id τ xs (ht id τ xs k)
 nd id τ xs k:=h.nd id τ xs (ht id τ xs k)
 pl id τ xs b k hb:=by
  obtain⟨h1,h2,h3,h4⟩:=h.pl id τ xs b (ht id τ xs k) hb;exact⟨h1,h2,h3,λ i o hi=>(ho i o hi).elim λ o' cH=>h4 i o' cH⟩
 ap id dt τ aW xs cK b k k':=h.ap id dt τ aW xs cK b (ht id τ xs k) (ht dt aW cK k')
theorem bh.bU{c:Ctx}{G:Gh}{sl:Nat->AV}{n:Nat}{lk:Nat->Option aB}{a:Act}{w:World}(h:bh c G sl n lk a w)(id:Nat) :
  bh c G (λ i=>(sl i).kill id) n (λ i=>(lk i).map (aB.kill id)) a w:=by
 have h1:bh c G (λ i=>(sl i).kill id) n lk a w:=h.forget λ i=>Vq id (sl i);exact {
  defers:=h1.defers,size:=h1.size,aM:=h1.aM,iQ:=h1.iQ,eh:=h1.eh,sX:=h1.sX,dE:=h1.dE
  aC:=λ i=>(h1.aC i).mono (λ j _=>⟨HA id _,rfl⟩) (λ _ h=>h) (λ _ _=>rfl)
  aJ:=λ i o ho=>by
   rw[b1s] at ho;obtain⟨o',cH,rfl⟩:=ho;exact ((h1.aJ i o' cH).kill id).mono rfl (λ _ _=>rfl) (λ j _=>⟨HA id _,rfl⟩) (λ _ h=>h) (λ _ _=>rfl)
  place:=λ i o b ho hb=>by
   rw[b1s] at ho;obtain⟨o',cH,rfl⟩:=ho;exact h1.place i o' b cH hb
  apart:=λ i j o o' b ho cH hb cv=>by
   rw[b1s] at ho cH;obtain⟨p,hp,rfl⟩:=ho;obtain⟨q,hq,rfl⟩:=cH;exact h1.apart i j p q b hp hq hb cv
  aR:=h1.aR.sub (λ i τ xs k=>iJ k) (λ i o k=>by
   rw[b1s] at k;obtain⟨p,hp,_⟩:=k;exact⟨p,hp⟩)
  root:=λ i v hr ht=>h1.root i v hr (by
   match hl:lk i,ht with
   | some (.aE ..),_=>rfl
   | some (.box _),ht=>simp[hl,aB.kill,cS] at ht
   | some (.row ..),ht=>simp[hl,aB.kill,cS] at ht
   | none,ht=>simp[hl,cS] at ht)
  fP:=h1.fP
  dq:=λ i v hr ht=>h1.dq i v hr (by
   match hl:lk i,ht with
   | some (.box _),_=>rfl
   | some (.aE ..),ht=>simp[hl,aB.kill,fI] at ht
   | some (.row ..),ht=>simp[hl,aB.kill,fI] at ht
   | none,ht=>simp[hl,fI] at ht)
  eG:=h1.eG }
theorem bh.a3C{c:Ctx}{G:Gh}{sl:Nat->AV}{n:Nat}{lk:Nat->Option aB}{a:Act}{w:World}(h:bh c G sl n lk a w)(id:Nat)
  (hs:∀ i,(sl i).refs id=false) (ho:∀ i o,lk i=some o->i≠id->o.refs id=false):bh c G sl n (λ i=>if i=id then none else lk i) a w:=by
 have fi:∀ j,j≠id->ew (lk j) ((λ i=>if i=id then none else lk i) j):=λ j hj=>by simp only[b0N hj];exact ew.refl _
 exact {
  defers:=h.defers,size:=h.size,aM:=h.aM,iQ:=h.iQ,eh:=h.eh,sX:=h.sX,dE:=h.dE
  aC:=λ i=>(h.aC i).mono (λ j hj=>⟨fi j (λ e=>by subst e;rw[hs i] at hj;cases hj),rfl⟩) (λ _ h=>h) (λ _ _=>rfl)
  aJ:=λ i o cr=>by
   by_cases hi:i=id
   .simp[hi] at cr
   .simp only[b0N hi] at cr;exact (h.aJ i o cr).mono rfl (λ _ _=>rfl) (λ j hj=>⟨fi j (λ e=>by subst e;rw[ho i o cr hi] at hj;cases hj),rfl⟩) (λ _ h=>h) (λ _ _=>rfl)
  place:=λ i o b cr hb=>by
   by_cases hi:i=id
   .simp[hi] at cr
   .simp only[b0N hi] at cr;exact h.place i o b cr hb
  apart:=λ i j o o' b cr GZ hb cv=>by
   by_cases hi:i=id
   .simp[hi] at cr
   .by_cases hj:j=id
    .simp[hj] at GZ
    .simp only[b0N hi] at cr;simp only[b0N hj] at GZ;exact h.apart i j o o' b cr GZ hb cv
  aR:=h.aR.sub (λ i τ xs k=>by
   by_cases hi:i=id
   .simp[hi] at k
   .simpa only[if_neg hi] using k) (λ i o k=>by
   by_cases hi:i=id
   .simp[hi] at k
   .exact⟨o,by simpa only[if_neg hi] using k⟩)
  root:=λ i v hr ht=>h.root i v hr (by
   by_cases hi:i=id
   .simp[hi,cS] at ht
   .simpa only[if_neg hi] using ht)
  fP:=h.fP
  dq:=λ i v hr ht=>h.dq i v hr (by
   by_cases hi:i=id
   .simp[hi,fI] at ht
   .simpa only[if_neg hi] using ht)
  eG:=h.eG }
theorem bh.newObj{c:Ctx}{G:Gh}{sl:Nat->AV}{n:Nat}{lk:Nat->Option aB}{a:Act}{w:World}(h:bh c G sl n lk a w)(id:Nat)(o:aB)(x:Value)
  (aU:lk id=none) (hs:∀ i,(sl i).refs id=false) (ho:∀ i o,lk i=some o->o.refs id=false) (hor:o.refs id=false)
  (oQ:OR c ⟨G.S,λ i=>if i=id then x else G.η i,G.φ⟩ (λ i=>if i=id then some o else lk i) w id o)
  (Kt:cS (some o)=false) (bz:fI (some o)=false\/id<400000) (hblk:∀ b,dw x=some b->(c.w0.heap.size<=b\/c.X b)/\¬ G.S b/\b<w.heap.size/\(∀ i o',lk i=some o'->dw (G.η i)≠some b)/\∀ j τ xs,lk j=some (.aE τ xs)->b∉G.φ j) :
  bh c ⟨G.S,λ i=>if i=id then x else G.η i,G.φ⟩ sl n (λ i=>if i=id then some o else lk i) a w:=by
 have fi:∀ j,j≠id->ew (lk j) ((λ i=>if i=id then some o else lk i) j)/\(if j=id then x else G.η j)=G.η j:=λ j hj=>by simp only[b0N hj];exact⟨ew.refl _,ag⟩
 exact {
  defers:=h.defers,size:=h.size,aM:=h.aM,iQ:=h.iQ,eh:=h.eh,sX:=h.sX,dE:=h.dE
  aC:=λ i=>(h.aC i).mono (λ j hj=>fi j (λ e=>by subst e;rw[hs i] at hj;cases hj)) (λ _ h=>h) (λ _ _=>rfl)
  aJ:=λ i o' cr=>by
   by_cases hi:i=id
   .subst hi;simp only[b2G,b0J] at cr;subst cr;exact oQ
   .simp only[b0N hi] at cr;exact (h.aJ i o' cr).mono (by simp only[b0N hi]) (λ _ _=>rfl) (λ j hj=>fi j (λ e=>by subst e;rw[ho i o' cr] at hj;cases hj)) (λ _ h=>h) (λ _ _=>rfl)
  place:=λ i o' b cr hb=>by
   by_cases hi:i=id
   .simp only[b0T hi] at hb;obtain⟨h1,h2,h3,_⟩:=hblk b hb;exact⟨h1,h2,h3⟩
   .simp only[b0N hi] at cr hb;exact h.place i o' b cr hb
  apart:=λ i j o1 o2 b cr GZ hb cv=>by
   by_cases hi:i=id
   .by_cases hj:j=id
    .rw[hi,hj]
    .simp only[b0N hj] at GZ cv;simp only[b0T hi] at hb;exact absurd cv ((hblk b hb).2.2.2.1 j o2 GZ)
   .by_cases hj:j=id
    .simp only[b0N hi] at cr hb;simp only[b0T hj] at cv;exact absurd hb ((hblk b cv).2.2.2.1 i o1 cr)
    .simp only[b0N hi] at cr hb;simp only[b0N hj] at GZ cv;exact h.apart i j o1 o2 b cr GZ hb cv
  aR:=by
   have hold:∀ j τ xs,(if j=id then some o else lk j)=some (.aE τ xs)->j≠id/\lk j=some (.aE τ xs):=λ j τ xs k=>by
    by_cases hj:j=id
    .rw[b0T hj] at k;cases k;cases Kt
    .rw[b0N hj] at k;exact⟨hj,k⟩
   exact {
    tr:=λ j τ xs k=>by
     obtain⟨h1,h2⟩:=hold j τ xs k;simp only[b0N h1];exact h.aR.tr j τ xs h2
    nd:=λ j τ xs k=>h.aR.nd j τ xs (hold j τ xs k).2
    pl:=λ j τ xs b k hb=>by
     obtain⟨h1,h2,h3,h4⟩:=h.aR.pl j τ xs b (hold j τ xs k).2 hb;refine⟨h1,h2,h3,λ i p sQ=>?_⟩;by_cases hi:i=id
     .simp only[b0T hi];exact λ e=>(hblk b e).2.2.2.2 j τ xs (hold j τ xs k).2 hb
     .simp only[b0N hi] at sQ ⊢;exact h4 i p sQ
    ap:=λ j j' τ aW xs cK b k k'=>h.aR.ap j j' τ aW xs cK b (hold j τ xs k).2 (hold j' aW cK k').2 }
  root:=λ i v hr ht=>by
   by_cases hi:i=id
   .simp only[b0T hi] at ht;rw[Kt] at ht;cases ht
   .simp only[b0N hi] at ht ⊢;exact h.root i v hr ht
  fP:=h.fP
  dq:=λ i v hr ht=>by
   by_cases hi:i=id
   .subst hi;rcases bz with bz|bz
    .simp only[b2G] at ht;rw[bz] at ht;cases ht
    .have:=h.eG i v hr;omega
   .simp only[b0N hi] at ht ⊢;exact h.dq i v hr ht
  eG:=h.eG }
theorem bh.TJ{c:Ctx}{G:Gh}{sl:Nat->AV}{n:Nat}{lk:Nat->Option aB}{a:Act}{w w':World}(h:bh c G sl n lk a w)(id:Nat)(o o':aB)(b:Nat)(aU:lk id=some o)(hb:dw (G.η id)=some b)
  (fi:ew (some o) (some o')) (Kt:cS (some o')=false) (hw:∀ k,k≠b->w'.heap[k]?=w.heap[k]?) (hos:w'.os=w.os) (Xl:w'.tape=w.tape) (RU:w'.output=w.output) (xw:w'.heap.size=w.heap.size)
  (oQ:OR c G (λ i=>if i=id then some o' else lk i) w' id o'):bh c G sl n (λ i=>if i=id then some o' else lk i) a w':=by
 obtain⟨Vd,hp2,hp3⟩:=h.place id o b aU hb;have cf:∀ k,St c G.S k->w'.heap[k]?=w.heap[k]?:=λ k hk=>hw k λ e=>by
  subst e;rcases hk with hk|hk
  .exact hp2 hk
  .exact Vd.elim (λ q=>by omega) hk.2.1
 have hs:∀ j,ew (lk j) ((λ i=>if i=id then some o' else lk i) j):=λ j=>by
  by_cases hj:j=id
  .subst hj;simp only[b2G];rw[aU];exact fi
  .simp only[b0N hj];exact ew.refl _
 exact {
  defers:=h.defers,size:=h.size
  aM:=h.aM.trans (Y:=λ k=>c.w0.heap.size<=k\/c.X k) ⟨hos,Xl,RU,Nat.le_of_eq xw.symm,λ k _ hx=>hw k λ e=>by subst e;exact hx Vd⟩ λ i hi hy=>hy.elim (λ h=>by omega) (λ h=>h)
  iQ:=h.iQ,eh:=h.eh,sX:=h.sX
  dE:=λ k hk=>by rw[xw];exact h.dE k hk
  aC:=λ i=>(h.aC i).mono (λ j _=>⟨hs j,rfl⟩) (λ _ h=>h) cf
  aJ:=λ i p hp=>by
   by_cases hi:i=id
   .subst hi;simp only[b2G,b0J] at hp;subst hp;exact oQ
   .simp only[b0N hi] at hp;exact (h.aJ i p hp).mono rfl (λ k hk=>hw k λ e=>by subst e;exact hi (h.apart i id p o _ hp aU hk hb)) (λ j _=>⟨hs j,rfl⟩) (λ _ h=>h) cf
  place:=λ i p k hp hk=>by
   rw[xw];by_cases hi:i=id
   .subst hi;exact h.place i o k aU hk
   .simp only[b0N hi] at hp;exact h.place i p k hp hk
  apart:=λ i j p q k hp hq hk eX=>by
   by_cases hi:i=id
   .by_cases hj:j=id
    .rw[hi,hj]
    .simp only[b0N hj] at hq;rw[hi] at hk ⊢;exact h.apart id j o q k aU hq hk eX
   .simp only[b0N hi] at hp;by_cases hj:j=id
    .rw[hj] at eX ⊢;exact h.apart i id p o k hp aU hk eX
    .simp only[b0N hj] at hq;exact h.apart i j p q k hp hq hk eX
  aR:=by
   have hold:∀ j τ xs,(if j=id then some o' else lk j)=some (.aE τ xs)->lk j=some (.aE τ xs):=λ j τ xs k=>by
    by_cases hj:j=id
    .rw[b0T hj] at k;cases k;cases Kt
    .rwa [b0N hj] at k
   exact {
    tr:=λ j τ xs k=>(h.aR.tr j τ xs (hold j τ xs k)).aM λ k' eX=>hw k' λ e=>by
     subst e;exact (h.aR.pl j τ xs _ (hold j τ xs k) eX).2.2.2 id o aU hb
    nd:=λ j τ xs k=>h.aR.nd j τ xs (hold j τ xs k)
    pl:=λ j τ xs b' k cv=>by
     obtain⟨h1,h2,h3,h4⟩:=h.aR.pl j τ xs b' (hold j τ xs k) cv;refine⟨h1,h2,by rw[xw];exact h3,λ i p sQ=>?_⟩;by_cases hi:i=id
     .rw[hi];exact h4 id o aU
     .rw[b0N hi] at sQ;exact h4 i p sQ
    ap:=λ j j' τ aW xs cK b' k k'=>h.aR.ap j j' τ aW xs cK b' (hold j τ xs k) (hold j' aW cK k') }
  root:=λ i v hr ht=>by
   by_cases hi:i=id
   .simp only[b0T hi] at ht;rw[Kt] at ht;cases ht
   .simp only[b0N hi] at ht;exact h.root i v hr ht
  fP:=h.fP
  dq:=λ i v hr ht=>by
   by_cases hi:i=id
   .subst hi;simp only[b2G] at ht;refine h.dq i v hr ?_;rw[aU];cases o with
    | box cs=>rfl
    | row e τ xs=>obtain⟨e',cK,q,_⟩:=fi.2.1 e τ xs rfl;rw[q] at ht;cases ht
    | aE τ xs=>have h3:cS (some o')=true:=fi.2.2.1 rfl;rw[Kt] at h3;cases h3
    | map m =>
     obtain⟨b1,_,_,k1,_⟩:=h.aJ i _ aU;match o',ht with
     | .box cs,_ =>
      obtain⟨b2,_,_,k2,_⟩:=oQ;rw[k1] at k2;cases k2
   .simp only[b0N hi] at ht;exact h.dq i v hr ht
  eG:=h.eG }
def vz:Ty->Value->Bool
 | .int k, .int k' n=>decide (k=k')&&decide (n=0)
 | .bool, .bool b => !b
 | .str, .string s=>s.data.toList.isEmpty
 | .slice _, .slice none 0 0=>true
 | .ptr, .pointer none=>true
 | _,_=>false
def JP:List Ty->List Value->Bool
 | [],[]=>true
 | t::ts,v::vs=>vz t v&&JP ts vs
 | _,_=>false
def xb(τ:Ty)(v:Value):Bool :=
 match τ,v with
 | .st s, .agg cs=>JP s.nk cs.toList
 | .st _,_=>false
 | τ,v=>vz τ v
def ND(P:Program)(T:TypeId)(τ:Ty):Bool :=
 match P.info? T with
 | some i=>Nat.beq i.size τ.size&&(match i.zero with
  | some z=>xb τ z
  | none=>false)
 | none=>false
def DX(E:Env)(s:aL):Nat->List Field->List Ty->Bool
 | _,[],[]=>true
 | i,f::fs,t::ts=>(match ai E.ty f.type with
   | some (τ,_)=>decide (τ=t)
   | none=>false)&&Nat.beq f.offset (s.dN i)&&DX E s (i+1) fs ts
 | _,_,_=>false
def oE(P:Program)(E:Env)(T:TypeId)(τ:Ty)(b e:Nat):Bool :=
 ND P T τ&&match τ with
  | .int k=>match P.underlying T with
   | some (.int k')=>decide (k=k')
   | _=>false
  | .bool=>match P.underlying T with
   | some .bool=>true
   | _=>false
  | .str=>match P.underlying T with
   | some .string=>true
   | _=>false
  | .slice t=>match P.underlying T with
   | some (.slice e')=>Nat.beq e e'&&(match ai E.ty e with
     | some (aW,_)=>decide (aW=t)
     | none=>false)&&(match P.info? e with
     | some i=>Nat.beq i.bytes b
     | none=>false)&&ND P e t
   | _=>false
  | .st s=>(match s.arr with
   | false=>match P.underlying T with
    | some (.struct fs)=>DX E s 0 fs.toList s.dv
    | _=>false
   | true=>match P.underlying T with
    | some (.array n e)=>Nat.beq n s.dv.length&&s.dv.all λ t=>match ai E.ty e with
     | some (aW,_)=>decide (aW=t)
     | none=>false
    | _=>false)
  | .mv _=>false
  | .ptr=>match P.underlying T with
   | some (.pointer _)=>true
   | _=>false
def PG(P:Program)(E:Env)(T:TypeId)(κ ε:Ty):Bool:=match P.underlying T with
 | some (.map k e)=>match ai E.ty k,ai E.ty e with
  | some (κ',_),some (ε',_)=>decide (κ'=κ)&&(decide (ε'=ε)&&(κ.Fw&&(ε.key&&Nat.blt 0 P.types.size)))
  | _,_=>false
 | _=>false
structure Info(P:Program)(T:TypeId)(τ:Ty):Prop where
 ex:∃ i z,P.info? T=some i/\i.size=τ.size/\i.zero=some z/\xb τ z=true
theorem Vj{P:Program}{T:TypeId}{τ:Ty}(h:ND P T τ=true):Info P T τ:=by
 unfold ND at h;split at h
 .rename_i i hi;simp only[b0U] at h;obtain⟨h1,h2⟩:=h;split at h2
  .rename_i z hz;exact⟨i,z,hi,b0L h1,hz,h2⟩
  .cases h2
 .cases h
def tw(P:Program)(w:World)(S:Nat->Prop):Arg->Value->Prop
 | .cP v,x=>∃ f ej l,x = .func (.func f) #[] l.toArray/\zm P f ej v.ps v.r v.F []/\aN (FU w S) ej l
 | a,x=>FU w S a x
theorem tw.of0{P:Program}{w:World}{S:Nat->Prop}{a:Arg}{x:Value}(h:FU w S a x):tw P w S a x:=by
 cases a with
 | cP v=>exact h.elim
 | own v=>exact h.elim
 | box k=>exact h.elim
 | _=>exact h
def gC(P:Program)(f:FuncId)(args:List Arg)(post:List TV->Prop):Prop :=
 ∀ (w:World) (S:Nat->Prop) (bO:List Value),iZ w S->aN (tw P w S) args bO ->
  Calls P f bO.toArray w λ e w'=>∃ x S' res,e = .returned x/\post res/\bK (λ _=>False) w w'/\(∀ b,b<w.heap.size->(S' b↔S b))/\(∀ b,S' b->b<w'.heap.size)/\E0 w' S' res x
def xd(w:World)(v:TV)(x:Value)(fp:List Nat):Prop :=
 match v with
 | ⟨.st s,y⟩=>∃ cs,x = .agg cs.toArray/\Ow w (s.aK y) cs fp
 | v=>Ow w v.aK [x] fp
def HL(w:World):List TV->List Value->List Nat->Prop
 | [],[],fp=>fp=[]
 | v::vs,x::xs,fp=>∃ f1 f2,fp=f1++f2/\xd w v x f1/\HL w vs xs f2
 | _,_,_=>False
def FY(w:World):List TV->Value->List Nat->Prop
 | [v],x,fp=>xd w v x fp
 | vs,x,fp=>∃ l,x = .tuple l.toArray/\HL w vs l fp
def qG(P:Program)(w:World)(S:Nat->Prop):List Arg->List Value->List Nat->Prop
 | [],[],fp=>fp=[]
 | a::Z9,x::xs,fp=>∃ f1 f2,fp=f1++f2/\(match a with
  | .own v=>xd w v x f1
  | a=>f1=[]/\tw P w S a x)/\qG P w S Z9 xs f2
 | _,_,_=>False
def tD(P:Program)(f:FuncId)(args:List Arg)(res:List TV):Prop :=
 ∀ (w:World) (S:Nat->Prop) (bO:List Value) (fa:List Nat),iZ w S->qG P w S args bO fa->(fa=[]\/∀ a∈args,a.HE=true)->fa.Nodup->(∀ b∈fa,b<w.heap.size/\¬ S b) ->
  Calls P f bO.toArray w λ e w'=>∃ x fp,e = .returned x/\bK (λ b=>b∈fa) w w'/\FY w' res x fp/\fp.Nodup/\∀ b∈fp,b∈fa\/(w.heap.size<=b/\b<w'.heap.size)
theorem qG.PX{P:Program}{w:World}{S:Nat->Prop}:∀ {Z9:List Arg} {xs:List Value},aN (tw P w S) Z9 xs->qG P w S Z9 xs []
 | [],[],_=>rfl
 | a::Z9,x::xs,h=>by
  refine⟨[],[],rfl,?_,qG.PX h.2⟩;cases a with
  | own v=>exact h.1.elim
  | box k=>exact h.1.elim
  | _=>exact⟨rfl,h.1⟩
 | [],_::_,h=>h.elim
 | _::_,[],h=>h.elim
def Sq(P:Program)(f:FuncId)(m:Uq):Prop :=
 ∀ (x:m.τ.den) (k:Int) (w:World) (v:Value) (fp:List Nat),(m.g x k).1.ok->av k->Gok w (λ b=>b<w.heap.size/\b∉fp)->xd w ⟨m.τ,x⟩ v fp->fp.Nodup->(∀ b∈fp,b<w.heap.size) ->
  Calls P f #[v, .int .i64 k] w λ e w'=>e = .returned (.int .i64 (m.g x k).2.2)/\av (m.g x k).2.2/\bK (λ b=>b∈fp) w w'/\∃ Cz,xd w' ⟨m.τ,(m.g x k).2.1⟩ v Cz/\Cz.Nodup/\∀ b∈Cz,b∈fp\/(w.heap.size<=b/\b<w'.heap.size)
def ig(w:World)(S:Nat->Prop)(B:Nat->Nat):List CK->List TV->List Value->List Nat->Prop
 | [],[],[],fp=>fp=[]
 | .d τ::ks,v::ds,x::xs,fp=>(v.τ=τ/\τ.agg=false/\Rd w S v.aK [x])/\ig w S B ks ds xs fp
 | .o τ::ks,v::ds,x::xs,fp=>∃ f1 f2,fp=f1++f2/\(v.τ=τ/\τ.agg=false/\Ow w v.aK [x] f1)/\ig w S B ks ds xs f2
 | .p j::ks,ds,x::xs,fp=>x = .pointer (some ⟨B j,0,none⟩)/\ig w S B ks ds xs fp
 | _,_,_,_=>False
def fe(w:World)(S:Nat->Prop)(B:Nat->Nat):Nat->List (List CK)->List (List TV)->List Nat->Prop
 | _,[],[],fp=>fp=[]
 | k,ks::sh,ds::bB,fp=>∃ l t f1 f2,fp=f1++f2/\w.heap[B k]?=some (.cells l.toArray t (0,0))/\ig w S B ks ds l f1/\fe w S B (k+1) sh bB f2
 | _,_,_,_=>False
def a4v(w:World)(S X:Nat->Prop):Arg->Value->Prop
 | .val v,x=>dI w S v x
 | .ref v,x=>∃ b o cs,x = .pointer (some ⟨b,o,none⟩)/\b<w.heap.size/\¬ X b/\bo w b o cs/\Rd w S v.aK cs
 | .fn f,x=>x = .func (.func f) #[] #[]
 | _,_=>False
def Lp(P:Program)(w:World)(S X:Nat->Prop)(B:Nat->Nat):Arg->Value->Prop
 | .box k,x=>x = .pointer (some ⟨B k,0,none⟩)
 | .val v,x=>dI w S v x
 | .ref v,x=>∃ b o cs,x = .pointer (some ⟨b,o,none⟩)/\b<w.heap.size/\¬ X b/\bo w b o cs/\Rd w S v.aK cs
 | .fn f,x=>x = .func (.func f) #[] #[]
 | .cP v,x=>∃ f ej l,x = .func (.func f) #[] l.toArray/\zm P f ej v.ps v.r v.F []/\aN (a4v w S X) ej l
 | .own _,_=>False
def BX(n:Nat)(B:Nat->Nat)(fa:List Nat)(b:Nat):Prop:=b∈fa\/∃ k,k<n/\b=B k
def Su(P:Program)(f:FuncId)(sh:List (List CK))(res:List TV)(dF:List (List TV))(w:World)(S:Nat->Prop)(B:Nat->Nat)(bO:List Value)(fa:List Nat):Prop :=
 Calls P f bO.toArray w λ e w'=>∃ x S' fp Gu,e = .returned x/\bK (BX sh.length B fa) w w'/\(∀ b,S b->S' b)/\(∀ b,S' b->b<w'.heap.size)/\(∀ b,b<w.heap.size->¬ BX sh.length B fa b->(S' b↔S b)) /\
  FY w' res x fp/\fe w' S' B 0 sh dF Gu/\(fp++Gu).Nodup/\(∀ b∈fp++Gu,(b∈fa\/(w.heap.size<=b/\b<w'.heap.size))/\¬ S' b/\∀ k,k<sh.length->B k≠b)/\∀ k,k<sh.length->¬ S' (B k)
def HK(P:Program)(f:FuncId)(sh:List (List CK))(args:List Arg)(bB:List (List TV))(res:List TV)(dF:List (List TV)):Prop :=
 ∀ (w:World) (S:Nat->Prop) (B:Nat->Nat) (bO:List Value) (fa:List Nat),iZ w S->fe w S B 0 sh bB fa->fa.Nodup->(∀ b∈fa,b<w.heap.size/\¬ S b/\∀ k,k<sh.length->B k≠b) ->
  (∀ k,k<sh.length->B k<w.heap.size/\¬ S (B k))->(∀ j k,j<sh.length->k<sh.length->B j=B k->j=k)->aN (Lp P w S (BX sh.length B fa) B) args bO->Su P f sh res dF w S B bO fa
theorem gC.ok0{P:Program}{f:FuncId}{args:List Arg}{post:List TV->Prop}(h:gC P f args post):HJ P f args post :=
 λ w S bO hS ha=>h w S bO hS (ha.imp λ _ _ _ hx => .of0 hx)
def a0y(w:World)(S T:Nat->Prop)(x:Value):Ye->Prop
 | .box cells=>∃ b l t,x = .pointer (some ⟨b,0,none⟩)/\w.heap[b]?=some (.cells l.toArray t (0,0))/\aN (λ v x=>v.τ.agg=false/\Rd w S v.aK [x]) cells l
 | .row e τ xs=>∃ l,w.ownsRow 0 e τ.size x xs.length l/\dj w S (xs.map τ.aK) l/\xs.length<=140737488355328
 | .res l=>∃ ys,x = .tuple ys.toArray/\aN (λ r x=>match r with
  | (true,v)=>∃ b o cs,x = .pointer (some ⟨b,o,none⟩)/\(S b\/T b)/\bo w b o cs/\Rd w S v.aK cs
  | (false,v)=>dI w S v x) l ys
def Wp(P:Program)(f:FuncId)(args:List Arg)(o:Ye):Prop :=
 ∀ (w:World) (S T:Nat->Prop) (bO:List Value),iZ w S->(∀ x∈bO,∀ a:Addr,x = .pointer (some a)->T a.block)->aN (tw P w S) args bO ->
  Calls P f bO.toArray w λ e w'=>∃ x S',e = .returned x/\bK (λ _=>False) w w'/\(∀ k,k<w.heap.size->(S' k↔S k))/\(∀ k,S' k->k<w'.heap.size) /\
   (∀ b,dw x=some b->w.heap.size<=b/\b<w'.heap.size/\¬ S' b)/\a0y w' S' T x o
def DS(P:Program)(f:FuncId)(Z9:List Arg)(τ:Ty)(xs ys:List τ.den):Prop :=
 ∀ (w:World) (S:Nat->Prop) (bO:List Value) (v:Value) (fp:List Nat),iZ w S->aN (Lp P w S (λ b=>b∈fp) (λ _=>0)) Z9 bO->xd w ⟨.slice τ,xs⟩ v fp->fp.Nodup->(∀ b∈fp,b<w.heap.size/\¬ S b) ->
  Calls P f (bO++[v]).toArray w λ e w'=>∃ r,e = .returned r/\bK (λ b=>b∈fp) w w'/\∃ Cz,xd w' ⟨.slice τ,ys⟩ v Cz/\Cz.Nodup/\∀ b∈Cz,b∈fp\/(w.heap.size<=b/\b<w'.heap.size)
structure bp(P:Program)(E:Env):Prop where
 ty:∀ T τ b e,ai E.ty T=some (τ,b,e)->oE P E T τ b e=true
 Ja:∀ T κ ε,ai E.Ja T=some (κ,ε)->PG P E T κ ε=true
 TW:∀ T τ,ai E.TW T=some τ->True
 Ka:∀ f args pre res,E.Ka f args=some (pre,res)->pre.ok->jt P f/\gC P f args (·=res)
 Jg:∀ f args pre res,E.Jg f args=some (pre,res)->pre.ok->jt P f/\tD P f args res
 mark:∀ f m,E.mark f=some m->jt P f/\Sq P f m
 PQ:∀ f args pre o,E.PQ f args=some (pre,o)->pre.ok->jt P f/\Wp P f args o
 Mm:∀ f Z9 τ xs pre ys,E.Mm f Z9 τ xs=some (pre,ys)->pre.ok->jt P f/\DS P f Z9 τ xs ys
 R9:∀ f sk args bB pre res dF,E.sk f=some sk->E.R9 f args bB=some (pre,res,dF)->pre.ok->jt P f/\HK P f sk.sh args bB res dF
section
variable {P:Program} {E:Env} {T:TypeId} {τ:Ty} {b e:Nat}
theorem bp.info(hE:bp P E)(h:ai E.ty T=some (τ,b,e)):Info P T τ:=by
 have:=hE.ty _ _ _ _ h;unfold oE at this;simp only[Bool.and_eq_true] at this;exact Vj this.1
theorem bp.int(hE:bp P E){k:IntKind}(h:ai E.ty T=some (.int k,b,e)):P.underlying T=some (.int k):=by
 have:=hE.ty _ _ _ _ h;unfold oE at this;simp only[Bool.and_eq_true] at this;have h2:=this.2;split at h2
 .rename_i k' hk;rw[hk,b1n h2]
 .cases h2
theorem bp.bool(hE:bp P E)(h:ai E.ty T=some (.bool,b,e)):P.underlying T=some .bool:=by
 have:=hE.ty _ _ _ _ h;unfold oE at this;simp only[Bool.and_eq_true] at this;have h2:=this.2;split at h2
 .assumption
 .cases h2
theorem bp.str(hE:bp P E)(h:ai E.ty T=some (.str,b,e)):P.underlying T=some .string:=by
 have:=hE.ty _ _ _ _ h;unfold oE at this;simp only[Bool.and_eq_true] at this;have h2:=this.2;split at h2
 .assumption
 .cases h2
theorem bp.slice(hE:bp P E){t:Ty}(h:ai E.ty T=some (.slice t,b,e)) :
  P.underlying T=some (.slice e)/\(∃ b' e',ai E.ty e=some (t,b',e'))/\(∃ i z,P.info? e=some i/\i.size=t.size/\i.bytes=b/\i.zero=some z/\xb t z=true):=by
 have:=hE.ty _ _ _ _ h;unfold oE at this;simp only[Bool.and_eq_true] at this;have h2:=this.2;split at h2
 .rename_i e' yw;simp only[b0U] at h2;obtain⟨⟨⟨h3,h4⟩,h5⟩,h6⟩:=h2;have h3:=b0L h3;subst h3;split at h4
  .rename_i aW r hl;have h4:=b1n h4;subst h4;obtain⟨i,z,hi,hs,hz,hzo⟩:=(Vj h6).ex;rw[hi] at h5;exact⟨yw,⟨_,_,hl⟩,i,z,hi,hs,b0L h5,hz,hzo⟩
  .cases h4
 .cases h2
theorem Im{s:aL}:∀ (n:Nat) (fs:List Field) (ts:List Ty),DX E s n fs ts=true->fs.length=ts.length /\
  ∀ i f,fs[i]?=some f->∃ t b e,ts[i]?=some t/\ai E.ty f.type=some (t,b,e)/\f.offset=s.dN (n+i)
 | _,[],[],_=>⟨rfl,by simp⟩
 | n,f::fs,t::ts,h=>by
  simp only[DX,b0U] at h;obtain⟨⟨h1,h2⟩,h3⟩:=h;obtain⟨h4,h5⟩:=Im (n+1) fs ts h3;refine⟨by simp[h4],λ i g hi=>?_⟩;cases i with
  | zero =>
   simp at hi;subst hi;split at h1
   .rename_i τ r hl;have h1:=b1n h1;subst h1;exact⟨_,_,_,rfl,hl,b0L h2⟩
   .cases h1
  | succ i =>
   obtain⟨t',b',e',k1,k2,k3⟩:=h5 i g (by simpa using hi);exact⟨t',b',e',by simpa using k1,k2,by rw[k3];congr 1;omega⟩
 | _,[],_::_,h=>by cases h
 | _,_::_,[],h=>by cases h
theorem bp.st(hE:bp P E){s:aL}(h:ai E.ty T=some (.st s,b,e))(ha:s.arr=false) :
  ∃ fs,P.underlying T=some (.struct fs)/\fs.size=s.dv.length/\∀ i f,fs[i]?=some f->∃ t b e,s.dv[i]?=some t/\ai E.ty f.type=some (t,b,e)/\f.offset=s.dN i:=by
 have:=hE.ty _ _ _ _ h;unfold oE at this;simp only[Bool.and_eq_true,ha] at this;have h2:=this.2;split at h2
 .rename_i fs hfs;obtain⟨h3,h4⟩:=Im 0 _ _ h2;refine⟨fs,hfs,by simpa using h3,λ i f hi=>?_⟩;obtain⟨t,b',e',k1,k2,k3⟩:=h4 i f (by simpa using hi);exact⟨t,b',e',k1,k2,by simpa using k3⟩
 .cases h2
theorem bp.arr(hE:bp P E){s:aL}(h:ai E.ty T=some (.st s,b,e))(ha:s.arr=true) :
  ∃ e',P.underlying T=some (.array s.dv.length e')/\∀ t∈s.dv,∃ b e,ai E.ty e'=some (t,b,e):=by
 have:=hE.ty _ _ _ _ h;unfold oE at this;simp only[Bool.and_eq_true,ha] at this;have h2:=this.2;split at h2
 .rename_i n e' hu;simp only[b0U,b1u] at h2;refine⟨e',by rw[hu,b0L h2.1],λ t ht=>?_⟩;have h3:=h2.2 t ht;split at h3
  .rename_i aW r hl;have h3:=b1n h3;subst h3;exact⟨_,_,hl⟩
  .cases h3
 .cases h2
theorem a4t(k n:Nat):(List.replicate k n).sum=k * n:=by
 induction k with
 | zero=>simp
 | succ k ih=>rw[b4c,b5a,Nat.succ_mul,Nat.add_comm,ih]
theorem bp.SA(hE:bp P E){n:aL}(h:ai E.ty T=some (.st n,b,e))(ha:n.arr=true){i:Nat}{t:Ty}(hi:n.dv[i]?=some t) :
  ∃ e',P.underlying T=some (.array n.dv.length e')/\(∃ b' e2,ai E.ty e'=some (t,b',e2))/\n.dN i=i * t.size:=by
 obtain⟨e',h1,h2⟩:=hE.arr h ha;obtain⟨b',e2,h3⟩:=h2 t (b1y hi);refine⟨e',h1,⟨b',e2,h3⟩,?_⟩;have gH:∀ u∈n.dv,u=t:=λ u hu=>by
  obtain⟨b3,e3,h4⟩:=h2 u hu;rw[h3] at h4;cases h4;rfl
 have hlen:=(List.getElem?_eq_some_iff.1 hi).1;unfold aL.dN;rw[show n.dv=List.replicate n.dv.length t from List.eq_replicate_iff.2 ⟨rfl,gH⟩];simp only[List.take_replicate,List.map_replicate,List.length_replicate,Nat.min_eq_left (Nat.le_of_lt hlen)];exact a4t i t.size
theorem bp.a2x(hE:bp P E){t:Ty}(h:ai E.ty T=some (.mv t,b,e)):False:=by
 have:=hE.ty _ _ _ _ h;unfold oE at this;simp at this
theorem bp.ptr(hE:bp P E)(h:ai E.ty T=some (.ptr,b,e)):∃ t,P.underlying T=some (.pointer t):=by
 have:=hE.ty _ _ _ _ h;unfold oE at this;simp only[Bool.and_eq_true] at this;have h2:=this.2;split at h2
 .rename_i t ht;exact⟨t,ht⟩
 .cases h2
theorem bp.isAgg(hE:bp P E)(h:ai E.ty T=some (τ,b,e))(w:World):(isAgg T).run P w = .ok τ.agg w:=by
 cases τ with
 | int k=>simp[Go.isAgg,b1A (hE.int h)];rfl
 | bool=>simp[Go.isAgg,b1A (hE.bool h)];rfl
 | str=>simp[Go.isAgg,b1A (hE.str h)];rfl
 | slice t=>simp[Go.isAgg,b1A (hE.slice h).1];rfl
 | st s =>
  cases ha:s.arr with
  | false=>obtain⟨fs,h1,_⟩:=hE.st h ha;simp[Go.isAgg,b1A h1];rfl
  | true=>obtain⟨e',h1,_⟩:=hE.arr h ha;simp[Go.isAgg,b1A h1];rfl
 | mv t=>exact (hE.a2x h).elim
 | ptr=>obtain⟨t,ht⟩:=hE.ptr h;simp[Go.isAgg,b1A ht];rfl
theorem bp.sizeOf(hE:bp P E)(h:ai E.ty T=some (τ,b,e))(w:World):(sizeOf T).run P w = .ok τ.size w:=by
 obtain⟨i,z,h1,h2,_⟩:=(hE.info h).ex;simp[Go.sizeOf,typeInfo,h1,h2]
theorem Ty.e9{τ:Ty}(h:τ.agg=false):τ.size=1:=by cases τ<;>first|rfl|cases h
theorem aL.size_pos(s:aL):0<s.size:=by cases s<;>decide
theorem Ty.size_pos(τ:Ty):0<τ.size:=by cases τ<;>first|exact Nat.one_pos|exact aL.size_pos _
def yO(τ:Ty)(cs:List Value):Value :=
 match τ with
 | .st _ => .agg cs.toArray
 | _=>cs.getD 0 undef
theorem gY(hE:bp P E)(h:ai E.ty T=some (τ,b,e)){w:World}{bk o:Nat}{cs:List Value}(hc:bo w bk o cs)(hl:cs.length=τ.size) :
  (Instr.loadAt T (.pointer (some ⟨bk,o,none⟩))).run P w = .ok (yO τ cs) w:=by
 have Ko:∀ j v,cs[j]?=some v->w.cell? ((⟨bk,o,none⟩:Addr).add j)=some v:=λ j v hj=>by rw[b3f];exact hc j v hj
 simp only[Instr.loadAt,Instr.sureAddr,loadVar,b1j,b1k,b1c,hE.isAgg h];cases eF:τ.agg with
 | true =>
  simp only[b2G,b1j,hE.sizeOf h,b1c];rw[<-hl,run_loadCells_list w _ cs Ko];cases τ<;>first|rfl|cases eF
 | false =>
  have h1:cs.length=1:=hl.trans (Ty.e9 eF);match cs,h1 with
  | [v],_ =>
   have:=hc 0 v rfl;simp only[b2L] at this;simp[run_load,this];cases τ<;>first|rfl|cases eF
end
section
variable {c:Ctx} {G:Gh} {lk:Nat->Option aB} {w:World}
theorem C1.fE{v:AV}{x:Value}(h:C1 c G lk w v x):VR c G lk w v x:=by
 cases v with
 | aO v =>
  obtain⟨τ,y⟩:=v;cases τ with
  | st s=>cases h.1
  | _=>exact h.2
 | agg cs=>exact h.elim
 | gK vs=>exact h.elim
 | cP f cs=>exact h.elim
 | _=>exact h
theorem VR.Se{v:AV}{x:Value}(h:VR c G lk w v x)(hc:v.cell=true):C1 c G lk w v x:=by
 cases v with
 | aO v =>
  obtain⟨τ,y⟩:=v;cases τ with
  | st s=>cases hc
  | _=>exact⟨rfl,h⟩
 | agg cs=>cases hc
 | gK vs=>cases hc
 | cP f cs=>cases hc
 | any=>cases hc
 | _=>exact h
theorem iI{v:TV}(h:v.τ.agg=false):v.aK.leaf=true:=by
 obtain⟨τ,y⟩:=v;cases τ<;>first|rfl|exact KX _ _ _|cases h
theorem C1.leaf{v:AV}{x:Value}(h:C1 c G lk w v x)(hc:v.cell=true):x.oneCell'=true/\x.cells = #[x]:=by
 cases v with
 | any=>cases hc
 | dX=>cases hc
 | agg cs=>cases hc
 | gK cs=>cases hc
 | cP f cs=>cases hc
 | gR v=>cases hc
 | aO v =>
  obtain⟨y,h1,h2⟩:=Rd.rN (iI h.1) h.2;simp only[b0O,b1i] at h1;subst h1;exact⟨wQ h2,I4 h2⟩
 | nil=>rw[show x=_ from h];exact⟨rfl,rfl⟩
 | cU v=>obtain⟨b,o,cs,rfl,_⟩:=h;exact⟨rfl,rfl⟩
 | ptr i o=>obtain⟨b,_,rfl,_⟩:=h;exact⟨rfl,rfl⟩
 | row i=>obtain⟨_,_,a,n,m,rfl⟩:=h;exact⟨rfl,rfl⟩
 | aE i=>obtain⟨_,_,_,a,n,m,rfl⟩:=h;exact⟨rfl,rfl⟩
 | sub i k o z=>obtain⟨_,_,_,_,_,_,_,_,a,n,m,rfl⟩:=h;exact⟨rfl,rfl⟩
 | eB i k o z=>cases hc
 | ep i k o=>obtain⟨b,n,cap,e,τ,xs,_,_,_,rfl⟩:=h;exact⟨rfl,rfl⟩
 | fn f=>rw[show x=_ from h];exact⟨rfl,rfl⟩
 | mp i=>obtain⟨_,_,b,rfl⟩:=h;exact⟨rfl,rfl⟩
theorem dI.cells{S:Nat->Prop}{v:TV}{x:Value}(h:dI w S v x):Rd w S v.aK x.cells.toList:=by
 obtain⟨τ,y⟩:=v;cases τ with
 | st s =>
  obtain⟨cs,rfl,h⟩:=h;show Rd w S (s.aK y) _;simpa [Value.cells] using h
 | _ =>
  obtain⟨z,h1,h2⟩:=Rd.rN (iI rfl) h;simp only[b0O,b1i] at h1;subst h1;rw[I4 h2];exact h
theorem zp.of{τ:Ty}(eF:τ.Fw=true){x:τ.den}{v:Value}{S:Nat->Prop}(h:dI w S ⟨τ,x⟩ v):zp τ x v:=by
 cases τ with
 | st s =>
  obtain⟨cs,rfl,h2⟩:=h;simp only[Ty.Fw,b0U,b0R] at eF;have ht:=aL.jd s x;rw[eF.2.1] at ht;rw[aL.bX] at h2;match hc:s.cells x,ht,h2 with
  | [⟨Nq,a⟩,⟨jr,b⟩],ht,h2 =>
   simp only[hc,b1p,b2k,b0O,b1i] at ht;obtain⟨rfl,rfl⟩:=ht;simp only[hc,b1p,b2k,TV.aK,Ty.aK,Rd,cQ] at h2;obtain⟨v1,r1,rfl,⟨e1,q1⟩,v2,r2,rfl,⟨e2,q2⟩,rfl⟩:=h2;simp only[b0O,b1i] at e1 e2;subst e1 e2;exact⟨a,b,hc,rfl,q1,q2⟩
 | int q=>exact nF.of (τ := .int q) (w:=w) (S:=S) rfl h
 | bool=>exact nF.of (τ := .bool) (w:=w) (S:=S) rfl h
 | str=>exact nF.of (τ := .str) (w:=w) (S:=S) rfl h
 | _=>cases eF
theorem dI.mk_{S:Nat->Prop}{v:TV}{cs:List Value}(h:Rd w S v.aK cs):dI w S v (yO v.τ cs):=by
 obtain⟨τ,y⟩:=v;cases τ with
 | st s=>exact⟨cs,rfl,h⟩
 | _ =>
  obtain⟨z,rfl,h2⟩:=Rd.rN (iI rfl) h;exact h
def SX(G:Gh)(lk:Nat->Option aB)(b:Nat):Prop:=G.S b\/(∃ id e τ xs,lk id=some (.row e τ xs)/\dw (G.η id)=some b)\/∃ id τ xs,lk id=some (.aE τ xs)/\b∈G.φ id
theorem bh.V9{c:Ctx}{G:Gh}{sl:Nat->AV}{n:Nat}{lk:Nat->Option aB}{a:Act}{w:World}(h:bh c G sl n lk a w):iZ w (SX G lk) :=
 ⟨λ b q=>by
  rcases q with hb|⟨id,e,τ,ys,aU,hb⟩|⟨id,τ,ys,aU,hb⟩
  .exact h.dE b hb
  .exact (h.place id _ b aU hb).2.2
  .exact (h.aR.pl id _ _ b aU hb).2.2.1,h.XV.2.mono (λ _ q => .inl q) λ _ _=>rfl⟩
theorem SX.of{b:Nat}(h:G.S b):SX G lk b := .inl h
theorem Y8{id:Nat}{e:TypeId}{τ:Ty}{xs:List τ.den}(ho:OR c G lk w id (.row e τ xs))(aU:lk id=some (.row e τ xs)):Rd w (SX G lk) (Ty.aK (.slice τ) xs) [G.η id]:=by
 obtain⟨l,h1,h2,h3⟩:=ho;rcases h1.2 with ⟨hv,hn⟩|⟨g,cap,cur,hv,_,hh,QX,W9,iP,htk⟩
 .have hx:xs=[]:=b1W hn;subst hx;exact⟨none,0,by simp[hv],by simp,by simp[maxLen],by simp, .inl rfl⟩
 .refine⟨some ⟨g,0,none⟩,cap,by simp[hv],by simpa using QX,W9,by simpa using h3,?_⟩;refine .inr ⟨g,0,rfl, .inr (.inl ⟨id,e,τ,xs,aU,by rw[hv];rfl⟩),?_⟩;refine dj.row _ g 0 (h2.aM (λ _ h=>SX.of h) (λ _ _=>rfl)) λ j v hj=>?_;have:=h1.cells (g:=g) (by rw[hv];rfl) j v hj;rw[Addr.add_lit] at this;exact this
theorem ij.rd{S:Nat->Prop}{η:Value}{τ:Ty}{xs:List τ.den}{fp:List Nat}(h:ij w η τ xs fp){x:Value}{l:List Value}(hx:η = .tuple (x::l).toArray)(hS:∀ b∈fp,S b):Rd w S (Ty.aK (.slice τ) xs) [x]:=by
 obtain⟨v,l',a,cap,h1,h2,h3,h4,h5,h6⟩:=h;rw[hx] at h1;simp only[Value.tuple.injEq,List.toArray_inj,List.cons.injEq] at h1;obtain⟨rfl,rfl⟩:=h1;refine⟨a,cap,by simp[h2],by simpa using h3,h4,by simpa using h5,?_⟩;rcases h6 with ⟨rfl,_,_⟩|⟨b,f,t,rfl,rfl,k1,_,k2⟩
 .exact .inl rfl
 .exact .inr ⟨b,0,rfl,hS b (by simp),bN.rd _ (p:=[]) (by simpa using k1) k2 λ b hb=>hS b (by simp[hb])⟩
theorem a3q(oF:FZ c G lk w){id:Nat}{τ:Ty}{xs:List τ.den}{x:Value}(aU:lk id=some (.aE τ xs))(hx:C1 c G lk w (.aE id) x):Rd w (SX G lk) (Ty.aK (.slice τ) xs) [x]:=by
 obtain⟨_,l,h2,_⟩:=hx;exact (oF.tr id τ xs aU).rd h2 λ b hb => .inr (.inr ⟨id,τ,xs,aU,hb⟩)
theorem a5U(oF:FZ c G lk w)(jx:∀ id o,lk id=some o->OR c G lk w id o){lk':Nat->Option aB}(bW:∀ id o,lk' id=some o->lk id=some o){τ:Ty}{v:AV}{x:Value}{y:τ.den}(h:iR lk' τ v=some y)
  (hv:C1 c G lk w v x):Rd w (SX G lk) (τ.aK y) [x]:=by
 cases v with
 | aO u =>
  have e:=TV.aT h;subst e;exact Rd.aM (λ _ h=>SX.of h) (λ _ _=>rfl) _ hv.2
 | nil =>
  cases τ with
  | slice t =>
   simp only[iR,b0J] at h;subst h;exact⟨none,0,by rw[show x=_ from hv];rfl,by simp,by simp[maxLen],by simp, .inl rfl⟩
  | _=>cases h
 | row id =>
  simp only[iR] at h;split at h
  .rename_i e aW xs hl;have e1:=TV.aT h;cases e1;have mW:=bW _ _ hl;rw[hv.1];exact Y8 (jx _ _ mW) mW
  .cases h
 | aE id =>
  simp only[iR] at h;split at h
  .rename_i aW xs hl;have e1:=TV.aT h;cases e1;exact a3q oF (bW _ _ hl) hv
  .cases h
 | _=>cases h
theorem a3y{lk':Nat->Option aB}(iF:∀ id e τ xs,lk' id≠some (.row e τ xs))(Kt:∀ id τ xs,lk' id≠some (.aE τ xs)){τ:Ty}{v:AV}{x:Value}{y:τ.den}(h:iR lk' τ v=some y)(hv:C1 c G lk w v x):Rd w G.S (τ.aK y) [x]:=by
 cases v with
 | aO u =>
  have e:=TV.aT h;subst e;exact hv.2
 | nil =>
  cases τ with
  | slice t =>
   simp only[iR,b0J] at h;subst h;exact⟨none,0,by rw[show x=_ from hv];rfl,by simp,by simp[maxLen],by simp, .inl rfl⟩
  | _=>cases h
 | row id =>
  simp only[iR] at h;split at h
  .rename_i hl;exact absurd hl (iF _ _ _ _)
  .cases h
 | aE id =>
  simp only[iR] at h;split at h
  .rename_i hl;exact absurd hl (Kt _ _ _)
  .cases h
 | _=>cases h
theorem Nu{τ:Ty}{v:AV}{x:Value}{y:τ.den}(h:iR (λ _=>none) τ v=some y)(hv:C1 c G lk w v x):Rd w G.S (τ.aK y) [x]:=by
 cases v with
 | aO u =>
  have e:=TV.aT h;subst e;exact hv.2
 | nil =>
  cases τ with
  | slice t =>
   simp only[iR,b0J] at h;subst h;exact⟨none,0,by rw[show x=_ from hv];rfl,by simp,by simp[maxLen],by simp, .inl rfl⟩
  | _=>cases h
 | _=>cases h
theorem LB{lk':Nat->Option aB}{R:TV->Value->Prop}{Q:AV->Value->Prop}(hR:∀ t v x y,iR lk' t v=some y->Q v x->R ⟨t,y⟩ x):∀ {cs:List AV} {ts:List Ty} {l:List TV} {vs:List Value},N8 lk' cs ts=some l->aN Q cs vs->aN R l vs
 | [],[],l,vs,h,k=>by
  simp only[N8,b0J] at h;subst h;match vs,k with
  | [],_=>trivial
 | v::cs,t::ts,l,vs,h,k=>by
  simp only[N8] at h;split at h
  .rename_i x hx;split at h
   .rename_i r hr;simp only[b0J] at h;subst h;match vs,k with
    | u::us,k=>exact⟨hR _ _ _ _ hx k.1,LB hR hr k.2⟩
   .cases h
  .cases h
 | [],_::_,_,_,h,_=>by cases h
 | _::_,[],_,_,h,_=>by cases h
theorem F0{S:Nat->Prop}{lk':Nat->Option aB}(h1:∀ τ v x (y:τ.den),iR lk' τ v=some y->C1 c G lk w v x->Rd w S (τ.aK y) [x])(hS:∀ b,G.S b->S b)
  {τ:Ty} {v:AV} {x:Value} {y:τ.den} (h:sO lk' τ v=some y) (hv:VR c G lk w v x):dI w S ⟨τ,y⟩ x:=by
 have lY:∀ (AS:∀ cs,v ≠ .agg cs),iR lk' τ v=some y->dI w S ⟨τ,y⟩ x:=by
  intro AS ha;cases v with
  | aO u =>
   have e:=TV.aT ha;subst e;exact dI.mono (G:=G) (G':=⟨S,G.η,G.φ⟩) hv hS (λ _ _=>rfl)
  | nil =>
   have:=h1 τ .nil x y ha hv;cases τ with
   | st s=>cases ha
   | _=>exact this
  | row i =>
   have:=h1 τ (.row i) x y ha hv;cases τ with
   | st s =>
    simp only[iR] at ha;split at ha
    .have e:=TV.aT ha;cases e
    .cases ha
   | _=>exact this
  | aE i =>
   have:=h1 τ (.aE i) x y ha hv;cases τ with
   | st s =>
    simp only[iR] at ha;split at ha
    .have e:=TV.aT ha;cases e
    .cases ha
   | _=>exact this
  | agg cs=>exact absurd rfl (AS cs)
  | _=>cases ha
 cases v with
 | agg cs =>
  cases τ with
  | st s =>
   simp only[sO] at h;split at h
   .rename_i l hl;obtain⟨vs,rfl,xy⟩:=hv;refine⟨vs,rfl,?_⟩;rw[aL.bX,aL.mn h];exact cQ.tF.2 (LB (λ t u z k hk hz=>h1 t u z k hk hz) hl xy)
   .cases h
  | _=>cases h
 | _=>exact lY (by intro cs;simp) h
theorem vL(oF:FZ c G lk w)(jx:∀ id o,lk id=some o->OR c G lk w id o){lk':Nat->Option aB}(bW:∀ id o,lk' id=some o->lk id=some o){τ:Ty}{v:AV}{x:Value}{y:τ.den}(h:sO lk' τ v=some y)
  (hv:VR c G lk w v x):dI w (SX G lk) ⟨τ,y⟩ x :=
 F0 (λ τ v x y h hv=>a5U oF jx bW h hv) (λ _ h=>SX.of h) h hv
theorem xR{lk':Nat->Option aB}(iF:∀ id e τ xs,lk' id≠some (.row e τ xs))(Kt:∀ id τ xs,lk' id≠some (.aE τ xs)){τ:Ty}{v:AV}{x:Value}{y:τ.den}(h:sO lk' τ v=some y)(hv:VR c G lk w v x):dI w G.S ⟨τ,y⟩ x :=
 F0 (λ τ v x y h hv=>a3y iF Kt h hv) (λ _ h=>h) h hv
theorem xQ{τ:Ty}{v:AV}{x:Value}{y:τ.den}(h:sO (λ _=>none) τ v=some y)(hv:VR c G lk w v x):dI w G.S ⟨τ,y⟩ x :=
 F0 (λ τ v x y h hv=>Nu h hv) (λ _ h=>h) h hv
theorem xg{τ:Ty}{v:AV}{x:Value}{new:List AV}(h:cellsOf τ v=some new)(hv:VR c G lk w v x) :
  aN (C1 c G lk w) new x.cells.toList/\(∀ u∈x.cells.toList,u.oneCell'=true)/\new.length=τ.size:=by
 have one:v.cell=true->new=[v]->τ.size=1->aN (C1 c G lk w) new x.cells.toList/\(∀ u∈x.cells.toList,u.oneCell'=true)/\new.length=τ.size:=by
  intro hc hn hs;subst hn;have h1:=hv.Se hc;obtain⟨h2,h3⟩:=h1.leaf hc;rw[h3];exact⟨⟨h1,ag⟩,by simpa using h2,by simp[hs]⟩
 cases τ with
 | st s =>
  simp only[cellsOf] at h;split at h
  .rename_i u;split at h
   .rename_i y hy;simp only[b0J] at h;subst h;have e:=TV.aT hy;subst e;obtain⟨cs,rfl,hr⟩:=hv;rw[aL.bX] at hr;have ha:=cQ.tF.1 hr;refine⟨?_,?_,by simp[Ty.size,aL.fV]⟩
    .simp only[Value.cells];refine aN.dG _ (ha.imp λ u z hu hz=>⟨?_,hz⟩);have:=aL.ns s y u hu;obtain⟨aW,z'⟩:=u;cases aW with
     | st s'=>simp[TV.aK,Ty.aK,aL.bX,D.leaf] at this
     | _=>rfl
    .simp only[Value.cells];intro u hu;obtain⟨i,hi,hiu⟩:=b2R hu;have hlen:=ha.length;obtain⟨b,hb,hr'⟩:=ha.at_ i (s.cells y)[i] (b1a (by omega));have cv:b=u:=by
      have:cs[i]?=some u:=by rw[b1a hi,hiu]
      rw[this] at hb;exact (b1Y hb).symm
     subst cv;obtain⟨z,h1,h2⟩:=Rd.rN (aL.ns s y _ (b2B _)) hr';simp only[b0O,b1i] at h1;subst h1;exact wQ h2
   .cases h
  .rename_i cs;split at h
   .rename_i hb;simp only[Option.some.injEq] at h;subst h;simp only[Bool.and_eq_true] at hb;obtain⟨l,rfl,hl⟩:=hv;refine⟨by simpa [Value.cells] using hl,?_,by simpa [Ty.size] using Nat.eq_of_beq_eq_true hb.1⟩;simp only[Value.cells];intro u hu;obtain⟨i,hi,hiu⟩:=List.getElem_of_mem hu;have hlen:=hl.length;obtain⟨b,cv,hr'⟩:=hl.at_ i cs[i] (List.getElem?_eq_getElem (by omega));have hbu:b=u:=by
     have:l[i]?=some u:=by rw[b1a hi,hiu]
     rw[this] at cv;exact (b1Y cv).symm
    subst hbu;exact (hr'.leaf (b1u.1 hb.2 _ (b2B _))).1
   .cases h
  .cases h
 | int k =>
  simp only[cellsOf] at h;split at h
  .rename_i hc;simp only[b0J] at h;exact one hc h.symm rfl
  .cases h
 | bool =>
  simp only[cellsOf] at h;split at h
  .rename_i hc;simp only[b0J] at h;exact one hc h.symm rfl
  .cases h
 | str =>
  simp only[cellsOf] at h;split at h
  .rename_i hc;simp only[b0J] at h;exact one hc h.symm rfl
  .cases h
 | ptr =>
  simp only[cellsOf] at h;split at h
  .rename_i hc;simp only[b0J] at h;exact one hc h.symm rfl
  .cases h
 | mv t =>
  simp only[cellsOf] at h;split at h
  .rename_i hc;simp only[b0J] at h;exact one hc h.symm rfl
  .cases h
 | slice t =>
  simp only[cellsOf] at h;split at h
  .rename_i hc;simp only[b0J] at h;exact one hc h.symm rfl
  .cases h
theorem CC{cs:List AV}{l:List Value}(hl:aN (C1 c G lk w) cs l){off:Nat}{τ:Ty}{u:AV}(h:DY cs off τ=some u) :
  VR c G lk w u (yO τ ((l.drop off).take τ.size))/\((l.drop off).take τ.size).length=τ.size/\off+τ.size<=l.length:=by
 have hlen:=hl.length;have one:τ.size=1->(∀ s,τ ≠ .st s)->cs[off]?=some u->VR c G lk w u (yO τ ((l.drop off).take τ.size))/\((l.drop off).take τ.size).length=τ.size/\off+τ.size<=l.length:=by
  intro hs cf hu;obtain⟨x,hx,hr⟩:=hl.at_ off u hu;have bz:off<l.length:=(b1h.1 hx).1;have he:(l.drop off).take 1=[x]:=by
   rw[b3a bz];have:=(b1h.1 hx).2;simp[this]
  rw[hs,he];refine⟨?_,rfl,by omega⟩;have:yO τ [x]=x:=by cases τ<;>first|rfl|exact absurd rfl (cf _)
  rw[this];exact hr.fE
 cases τ with
 | st s =>
  simp only[DY] at h;split at h
  .rename_i hb;simp only[b0J] at h;subst h;have hle:=b1N hb;refine⟨⟨_,rfl,(hl.drop off).take s.size⟩,?_,?_⟩
   .simp only[Ty.size,b1T,b1Z];omega
   .simp only[Ty.size];omega
  .cases h
 | int k=>exact one rfl (by intro s;simp) h
 | bool=>exact one rfl (by intro s;simp) h
 | str=>exact one rfl (by intro s;simp) h
 | slice t=>exact one rfl (by intro s;simp) h
 | mv t=>exact one rfl (by intro s;simp) h
 | ptr=>exact one rfl (by intro s;simp) h
theorem bo.part{bk o:Nat}{l:List Value}(h:bo w bk o l)(off n:Nat):bo w bk (o+off) ((l.drop off).take n):=λ j v hj=>by
 rw[b2e] at hj;split at hj
 .rw[b2W] at hj;have:=h (off+j) v hj;rwa [<-b3B] at this
 .cases hj
theorem bo.of_heap{bk:Nat}{l:List Value}{t:TypeId}{fr:Nat×Nat}(h:w.heap[bk]?=some (.cells l.toArray t fr)):bo w bk 0 l:=λ j v hj=>by
 simp only[World.cell?,h,Nat.zero_add,Option.isSome_none];simpa using hj
theorem XJ{S:Nat->Prop}{v u:TV}{off:Nat}{τ:Ty}(h:v.part off τ=some u){l:List Value}(hl:Rd w S v.aK l) :
  u.τ=τ/\((l.drop off).take τ.size).length=τ.size/\Rd w S u.aK ((l.drop off).take τ.size):=by
 have hlen:=Rd.length _ hl;rw[show v.aK=v.τ.aK v.x from rfl,Ty.cz] at hlen;unfold TV.part at h;split at h
 .rename_i hb;simp only[b0U] at hb;simp only[b0J] at h;subst h;have h0:=b0L hb.1;have h1:=b1n hb.2;subst h0;subst h1;rw[b4g,b1I (by omega)];exact⟨rfl,hlen,hl⟩
 .split at h
  .rename_i z hz;split at h
   .rename_i hb;simp only[b0J] at h;subst h;have h1:=b1n hb;subst h1;obtain⟨aW,y⟩:=v;have key:∀ (x:Value),l[off]?=some x->z.τ.agg=false->Rd w S z.aK [x]->z.τ=z.τ/\((l.drop off).take z.τ.size).length=z.τ.size/\Rd w S z.aK ((l.drop off).take z.τ.size):=by
     intro x hx ha hr;have bz:off<l.length:=(b1h.1 hx).1;have he:(l.drop off).take 1=[x]:=by
      rw[b3a bz];have:=(b1h.1 hx).2;simp[this]
     rw[Ty.e9 ha,he];exact⟨rfl,rfl,hr⟩
    cases aW with
    | st s =>
     simp only[TV.cells] at hz;rw[show TV.aK ⟨.st s,y⟩=s.aK y from rfl,aL.bX] at hl;obtain⟨x,hx,hr⟩:=(cQ.tF.1 hl).at_ off z hz;refine key x hx ?_ hr;have:=aL.ns s y z (b1y hz);obtain⟨a9C,z'⟩:=z;cases a9C with
     | st s'=>simp[TV.aK,Ty.aK,aL.bX,D.leaf] at this
     | _=>rfl
    | _ =>
     simp only[TV.cells] at hz;cases off with
     | zero =>
      simp at hz;subst hz;obtain⟨x,rfl,_⟩:=Rd.rN (iI rfl) hl;exact key x rfl rfl hl
     | succ k=>simp at hz
   .cases h
  .cases h
theorem R6{id:Nat}{e:TypeId}{τ:Ty}{xs:List τ.den}(ho:OR c G lk w id (.row e τ xs)){b n cap:Nat}(eY:G.η id = .slice (some ⟨b,0,none⟩) n cap){i:Nat}(hi:i<xs.length) :
  ∃ cs,cs.length=τ.size/\bo w b (i * τ.size) cs/\Rd w G.S (τ.aK (xs.getD i τ.zero)) cs:=by
 obtain⟨l,h1,h2,h3⟩:=ho;have cj:∀ d∈xs.map τ.aK,d.size=τ.size:=by
  intro d hd;obtain⟨y,_,rfl⟩:=b0P.1 hd;exact Ty.cz τ y
 have Z0:=dj.length _ h2 cj;have Km:=dj.at_ _ h2 cj i (τ.aK (xs.getD i τ.zero)) (by simp[List.getD,hi]);have hlen:=Rd.length _ Km;rw[Ty.cz] at hlen;refine⟨_,hlen,?_,Km⟩;have hc:bo w b 0 l:=λ j v hj=>by
  have:=h1.cells (g:=b) (by rw[eY];rfl) j v hj;rwa [b3f] at this
 have:=hc.part (i * τ.size) τ.size;rwa [b2l] at this
theorem XQ{S:Nat->Prop}{v:TV}{l:List Value}(hl:Rd w S v.aK l):aN (λ u x=>u.τ.agg=false/\Rd w S u.aK [x]) v.cells l:=by
 obtain⟨τ,y⟩:=v;have one:τ.agg=false->TV.cells ⟨τ,y⟩=[⟨τ,y⟩]->aN (λ u x=>u.τ.agg=false/\Rd w S u.aK [x]) (TV.cells ⟨τ,y⟩) l:=λ ha h=>by
  rw[h];have hlen:=Rd.length _ hl;rw[show TV.aK ⟨τ,y⟩=τ.aK y from rfl,Ty.cz,Ty.e9 ha] at hlen;match l,hlen,hl with
  | [x],_,hl=>exact⟨⟨ha,hl⟩,ag⟩
 cases τ with
 | st s =>
  rw[show TV.aK ⟨.st s,y⟩=s.aK y from rfl,aL.bX] at hl;have ha:∀ u∈s.cells y,u.τ.agg=false:=λ u hu=>by
   have h1:u.τ∈s.nk:=by rw[<-aL.jd s y];exact b0P.2 ⟨u,hu,rfl⟩
   revert h1;have:∀ t∈s.nk,t.agg=false:=by cases s<;>decide
   exact this _
  have h2:=cQ.tF.1 hl;exact h2.imp λ u x hu hx=>⟨ha u hu,hx⟩
 | _=>exact one rfl rfl
theorem VK{v:TV}{u:AV}{off:Nat}{τ:Ty}(h:v.XI off τ=some u){l:List Value}(hl:Rd w G.S v.aK l) :
  ((l.drop off).take τ.size).length=τ.size/\VR c G lk w u (yO τ ((l.drop off).take τ.size)):=by
 cases τ with
 | st s =>
  simp only[TV.XI] at h;split at h
  .rename_i hb;simp only[b0J] at h;subst h;have hb:=b1N hb;have h2:=XQ hl;have hlen:=h2.length;refine⟨by simp[Ty.size];omega,_,rfl,?_⟩;exact aN.dG AV.aO (((h2.drop off).take s.size).imp λ u x _ hx=>hx)
  .cases h
 | _=>cases h
theorem oo(jx:∀ id o,lk id=some o->OR c G lk w id o){lk':Nat->Option aB}(bW:∀ id o,lk' id=some o->lk id=some o){τ:Ty}{v u:AV}{x:Value}(h:pW lk' τ v=some u)(hv:VR c G lk w v x) :
  ∃ b o cs,x = .pointer (some ⟨b,o,none⟩)/\bo w b o cs/\cs.length=τ.size/\VR c G lk w u (yO τ cs):=by
 cases v with
 | cU z =>
  simp only[pW] at h;split at h
  .rename_i hb;simp only[b0J] at h;subst h;have e:=b1n hb;subst e;obtain⟨b,o,cs,h1,h2,h3,h4⟩:=hv;refine⟨b,o,cs,h1,h3,?_,dI.mk_ h4⟩;rw[Rd.length _ h4];exact Ty.cz _ _
  .cases h
 | ptr id off =>
  simp only[pW] at h;split at h
  .rename_i cs hl;obtain⟨b,h1,h2,h3⟩:=hv;obtain⟨b',l,t,k1,k2,k3⟩:=jx _ _ (bW _ _ hl);rw[h1] at k1;simp only[b3i,b0J,b2E,b1i] at k1;subst k1;obtain⟨m1,m2,m3⟩:=CC k3 h;refine⟨b,off,_,h2,?_,m2,m1⟩;have:=(bo.of_heap k2).part off τ.size;rwa [b2l] at this
  .cases h
 | ep id i off =>
  simp only[pW] at h;split at h
  .rename_i e aW xs hl;split at h
   .rename_i z hz;simp only[b0J] at h;subst h;obtain⟨b,n,cap,e1,Nq,QH,h1,h2,h3,h4⟩:=hv;have mW:=bW _ _ hl;rw[mW] at h2;simp only[b0J,aB.row.injEq] at h2;obtain⟨rfl,rfl,h2⟩:=h2;have h2:=b3G h2;subst h2;obtain⟨cs,m1,m2,m3⟩:=R6 (jx _ _ mW) h1 h3;obtain⟨p1,p2,p3⟩:=XJ (v:=⟨aW,xs.getD i aW.zero⟩) hz m3;subst p1;exact⟨b,_,_,h4,m2.part off _,p2,dI.mk_ p3⟩
   .obtain⟨b,n,cap,e1,Nq,QH,h1,h2,h3,h4⟩:=hv;have mW:=bW _ _ hl;rw[mW] at h2;simp only[b0J,aB.row.injEq] at h2;obtain⟨rfl,rfl,h2⟩:=h2;have h2:=b3G h2;subst h2;obtain⟨cs,m1,m2,m3⟩:=R6 (jx _ _ mW) h1 h3;obtain⟨p2,p3⟩:=VK (v:=⟨aW,xs.getD i aW.zero⟩) h m3;exact⟨b,_,_,h4,m2.part off _,p2,p3⟩
  .cases h
 | _=>cases h
end
theorem dU{k:IntKind}{n:Int}(h:cD k n):k.min<=n/\n<=k.max:=by
 cases k<;>first
  | exact h
  | (simp only[cD,av] at h;simp only[IntKind.min,IntKind.max,IntKind.signed,IntKind.bits,b2G];exact⟨by omega,by omega⟩)
theorem qF{k:IntKind}{n:Int}(h:k.min<=n/\n<=k.max):k.wrap n=n:=by
 cases k<;>simp[IntKind.min,IntKind.max,IntKind.signed,IntKind.bits] at h<;>simp[IntKind.wrap,IntKind.signed,IntKind.bits]<;>(try split)<;>omega
theorem QG(n:Int):IntKind.u64.min<=IntKind.u64.wrap n/\IntKind.u64.wrap n<=IntKind.u64.max:=by
 simp[IntKind.min,IntKind.max,IntKind.signed,IntKind.bits,IntKind.wrap];omega
theorem Xz{k:IntKind}{a:Int}(h0:0<=a)(h:k.min<=a/\a<=k.max):a.toNat<2 ^ k.bits:=by
 cases k<;>simp[IntKind.min,IntKind.max,IntKind.signed,IntKind.bits] at h ⊢<;>omega
theorem ZB{k:IntKind}{a b:Int}(ha0:0<=a)(CG:0<=b)(ha:k.min<=a/\a<=k.max)(hb:k.min<=b/\b<=k.max) :
  k.wrap ((BitVec.ofInt k.bits a &&& BitVec.ofInt k.bits b).toNat:Int)=((a.toNat &&& b.toNat:Nat):Int)/\k.min<=((a.toNat &&& b.toNat:Nat):Int)/\((a.toNat &&& b.toNat:Nat):Int)<=k.max:=by
 have h1:∀ x:Int,0<=x->k.min<=x/\x<=k.max->(BitVec.ofInt k.bits x).toNat=x.toNat:=λ x h0 hx=>by
  obtain⟨n,rfl⟩:=Int.eq_ofNat_of_zero_le h0;have:=Xz h0 hx;simp only[b1H] at this ⊢;rw[show BitVec.ofInt k.bits (n:Int)=BitVec.ofNat k.bits n from BitVec.ofInt_natCast ..,BitVec.toNat_ofNat];exact Nat.mod_eq_of_lt this
 have hle:((a.toNat &&& b.toNat:Nat):Int)<=a:=by
  have := @Nat.and_le_left a.toNat b.toNat;omega
 have hr:k.min<=((a.toNat &&& b.toNat:Nat):Int)/\((a.toNat &&& b.toNat:Nat):Int)<=k.max:=by
  refine⟨?_,by omega⟩;have:k.min<=0:=by cases k<;>decide
  omega
 rw[BitVec.toNat_and,h1 a ha0 ha,h1 b CG hb];exact⟨qF hr,hr⟩
theorem N7{op:BinOp}{k yk:IntKind}{a b r:Int}{p:Vc}(h:arith op k a b=some (p,r))(hp:p.ok)(hk:op = .shl\/op = .shr\/yk=k)(P:Program)(t:TypeId)(w:World) :
  (binOp op t (.int k a) (.int yk b)).run P w = .ok (.int k r) w/\k.min<=r/\r<=k.max:=by
 cases op<;>simp only[arith] at h<;>try cases h
 case add =>
  have hk:yk=k:=by simpa using hk
  subst hk;split at h<;>simp only[b0J,b0M] at h<;>obtain⟨rfl,rfl⟩:=h
  .exact⟨by simp[binOp_add,Op.intArith],QG _⟩
  .have:=dU hp;exact⟨by simp[binOp_add,Op.intArith,qF this],this⟩
 case sub =>
  have hk:yk=k:=by simpa using hk
  subst hk;have:=dU hp;exact⟨by simp[binOp_sub,Op.intArith,qF this],this⟩
 case mul =>
  have hk:yk=k:=by simpa using hk
  subst hk;split at h<;>simp only[b0J,b0M] at h<;>obtain⟨rfl,rfl⟩:=h
  .exact⟨by simp[binOp_mul,Op.intArith],QG _⟩
  .have:=dU hp;exact⟨by simp[binOp_mul,Op.intArith,qF this],this⟩
 case quo =>
  have hk:yk=k:=by simpa using hk
  subst hk;have:=dU hp.2;exact⟨by simp[binOp_quo,Op.intDiv,hp.1,qF this],this⟩
 case rem =>
  have hk:yk=k:=by simpa using hk
  subst hk;have:=dU hp.2;exact⟨by simp[binOp_rem,Op.intDiv,hp.1],this⟩
 case and =>
  have hk:yk=k:=by simpa using hk
  subst hk;obtain⟨h1,h2⟩:=ZB hp.1 hp.2.1 (dU hp.2.2.1) (dU hp.2.2.2);exact⟨by simp only[binOp_and,Op.intBits,b1k,h1],h2⟩
 case shl =>
  have Vd:b<(k.bits:Int):=hp.2.1;have:=dU hp.2.2;have hb:min b.toNat k.bits=b.toNat:=by omega
  exact⟨by simp[binOp_shl,Op.shift,Int.not_lt.2 hp.1,hb,qF this],this⟩
 case shr =>
  have Vd:b<(k.bits:Int):=hp.2.1;have:=dU hp.2.2;have hb:min b.toNat k.bits=b.toNat:=by omega
  exact⟨by simp[binOp_shr,Op.shift,Int.not_lt.2 hp.1,hb],this⟩
theorem Uo(k:IntKind)(n:Int):k.min<=k.wrap n/\k.wrap n<=k.max:=by
 cases k<;>simp[IntKind.min,IntKind.max,IntKind.signed,IntKind.bits,IntKind.wrap]<;>omega
theorem Uw{wr:Bool}{op:BinOp}{k yk:IntKind}{a b r:Int}{p:Vc}(h:Sz wr op k a b=some (p,r))(hp:p.ok)(hk:op = .shl\/op = .shr\/yk=k)(P:Program)(t:TypeId)(w:World) :
  (binOp op t (.int k a) (.int yk b)).run P w = .ok (.int k r) w/\k.min<=r/\r<=k.max:=by
 unfold Sz at h;split at h
 .split at h
  .have hk:yk=k:=by simpa using hk
   subst hk;simp only[b0J,b0M] at h;obtain⟨rfl,rfl⟩:=h;exact⟨by simp[binOp_add,Op.intArith],Uo _ _⟩
  .have hk:yk=k:=by simpa using hk
   subst hk;simp only[b0J,b0M] at h;obtain⟨rfl,rfl⟩:=h;exact⟨by simp[binOp_sub,Op.intArith],Uo _ _⟩
  .have hk:yk=k:=by simpa using hk
   subst hk;simp only[b0J,b0M] at h;obtain⟨rfl,rfl⟩:=h;exact⟨by simp[binOp_mul,Op.intArith],Uo _ _⟩
  .exact N7 h hp hk P t w
 .exact N7 h hp hk P t w
theorem a0X{op:BinOp}{k:IntKind}{a b:Int}{r:Bool}(h:cmp op a b=some r)(P:Program)(t:TypeId)(w:World) :
  (binOp op t (.int k a) (.int k b)).run P w = .ok (.bool r) w:=by
 cases op<;>simp only[cmp,b0J] at h<;>try cases h
 .simp only[binOp_eql,b1k];congr 2
 .simp only[binOp_neq,b1k];congr 2
 .simp[binOp_lss]
 .simp[binOp_leq]
 .simp[binOp_gtr]
 .simp[binOp_geq]
section
variable {c:Ctx} {G:Gh} {lk:Nat->Option aB} {w:World}
theorem Rz(a b:ByteArray):(a.toList == b.toList)=decide (a.data.toList=b.data.toList):=by
 rw[b5c,b5c];rw[b3E];simp
theorem WG(hE:bp c.P c.E){op:BinOp}{T:TypeId}{u v r:AV}{x y:Value}{p:Vc}{wr:Bool}(ox oy:Operand)
  (h:WE (match ai c.E.ty T with
   | some (.bool,_)=>true
   | _=>false) wr op u v=some (p,r)) (hp:p.ok) (hu:VR c G lk w u x) (hv:VR c G lk w v y) :
  ∃ z,(do eqGuard op T ox oy x y;binOp op T x y:Sem Value).run c.P w = .ok z w/\VR c G lk w r z:=by
 unfold WE at h;split at h
 .rename_i k a k' b;obtain⟨h1,h2⟩:=hu;obtain⟨h3,h4⟩:=hv;simp only[b0O,b1i] at h1 h3;subst h1 h3;simp only[eqGuard_at_int,b1j,b1k,b1c];split at h
  .rename_i p' r' har;have key:(op = .shl\/op = .shr\/k'=k)->p'.ok->∃ z,(binOp op T (.int k a) (.int k' b)).run c.P w = .ok z w/\VR c G lk w (.aO ⟨.int k,r'⟩) z:=λ hk IS=>by
    obtain⟨h5,h6⟩:=Uw har IS hk c.P T w;exact⟨_,h5,rfl,h6⟩
   split at h
   .simp only[b0J,b0M] at h;obtain⟨rfl,rfl⟩:=h;exact key (.inl rfl) hp
   .simp only[b0J,b0M] at h;obtain⟨rfl,rfl⟩:=h;exact key (.inr (.inl rfl)) hp
   .split at h
    .rename_i hk;simp only[b0J,b0M] at h;obtain⟨rfl,rfl⟩:=h;exact key (.inr (.inr (b1n hk).symm)) hp
    .cases h
  .split at h
   .rename_i hk;have hk:=b1n hk;subst hk;split at h
    .rename_i cc hc;simp only[b0J,b0M] at h;obtain⟨rfl,rfl⟩:=h;exact⟨_,a0X hc c.P T w,rfl⟩
    .cases h
   .cases h
 .rename_i a b;have hu:[x]=[.bool a]:=hu;have hv:[y]=[.bool b]:=hv;simp only[b0O,b1i] at hu hv;subst hu hv;split at h
  .rename_i hT;split at hT
   .rename_i r' hl;have hb:=hE.bool hl;split at h
    .simp only[b0J,b0M] at h;obtain⟨rfl,rfl⟩:=h;exact⟨.bool (a == b),by simp[binOp,run_equal_bool w T a b hb,eqGuard_at_bool],rfl⟩
    .simp only[b0J,b0M] at h;obtain⟨rfl,rfl⟩:=h;exact⟨.bool !(a == b),by simp[binOp,run_equal_bool w T a b hb,eqGuard_at_bool],rfl⟩
    .cases h
   .cases hT
  .cases h
 .rename_i a b;obtain⟨s,h1,h2,h3⟩:=hu;obtain⟨s',h4,h5,h6⟩:=hv;simp only[b0O,b1i] at h1 h4;subst h1 h4;subst h2 h5;split at h
  .simp only[b0J,b0M] at h;obtain⟨rfl,rfl⟩:=h;exact⟨.bool (s.toList == s'.toList),by simp[binOp,Op.stringOp,b4q],by rw[Rz];rfl⟩
  .simp only[b0J,b0M] at h;obtain⟨rfl,rfl⟩:=h;exact⟨.bool (!(s.toList == s'.toList)),by simp[binOp,Op.stringOp,b4q],by rw[Rz];rfl⟩
  .simp only[b0J,b0M] at h;obtain⟨rfl,rfl⟩:=h;have cj:s.size+s'.size<=140737488355328:=by
    have:=hp;simp only[b1K] at this;exact this
   have hs2:(s++s').size=s.size+s'.size:=ByteArray.size_append;refine⟨.string (s++s'),?_,s++s',rfl,by simp,by rw[hs2];exact cj⟩;have:¬ (((s.size+s'.size:Nat):Int)>IntKind.i64.max):=by rw[IntKind.max_i64];omega
   simp only[b4q,b1j,b1k,b1c,binOp,Op.stringOp,b0N this]
  .cases h
 .cases h
theorem Ax(hE:bp c.P c.E){T:TypeId}{n:aL}{b e:Nat}(h:ai c.E.ty T=some (.st n,b,e))(ha:n.arr=false){bk o:Nat}{i:Nat}(hi:i<n.dv.length)(w:World) :
  (Instr.fieldAt T (.pointer (some ⟨bk,o,none⟩)) i).run c.P w = .ok (.pointer (some ⟨bk,o+n.dN i,none⟩)) w:=by
 obtain⟨fs,h1,h2,h3⟩:=hE.st h ha;have hf:fs[i]?=some fs[i]:=b1L (by omega);obtain⟨t,b',e',h4,h5,h6⟩:=h3 i _ hf;have cj:=hE.sizeOf h5 w;have h0:t.size≠0:=Nat.pos_iff_ne_zero.1 t.size_pos;simp[Instr.fieldAt,b1A h1,hf,Instr.sureAddr,fieldPlace,cj,h0,b3f,h6]
theorem XU(hE:bp c.P c.E){T:TypeId}{n:aL}{b e:Nat}(h:ai c.E.ty T=some (.st n,b,e))(ha:n.arr=false){l:List Value}{i:Nat}{t:Ty}(hi:n.dv[i]?=some t)
  (hl:n.dN i+t.size<=l.length) (w:World) :
  (Instr.field T (.agg l.toArray) i).run c.P w = .ok (yO t ((l.drop (n.dN i)).take t.size)) w:=by
 obtain⟨fs,h1,h2,h3⟩:=hE.st h ha;have bz:i<fs.size:=by have:=(b1h.1 hi).1;omega
 have hf:fs[i]?=some fs[i]:=b1L bz;obtain⟨t',b',e',h4,h5,h6⟩:=h3 i _ hf;rw[hi] at h4;simp only[b0J] at h4;subst h4;have cj:=hE.sizeOf h5 w;have hag:=hE.isAgg h5 w;simp only[Instr.field,b1j,b1A h1,b1c,hf,asAgg,part,hag,b1k];cases eF:t.agg with
 | true =>
  simp only[b2G,b1j,cj,b1c,b1k,h6];cases t<;>first|(cases eF;done)|skip
  simp only[yO,b4L,b4K,b1i];apply b4u;simp[List.take_drop]
 | false =>
  have h1:=Ty.e9 eF;simp only[b1z,b3H,h6];have hx:l.toArray[n.dN i]?=some (l[n.dN i]'(by omega)):=by rw[b4R];exact b1a (by omega)
  rw[hx];simp only[b1k,h1];have he:(l.drop (n.dN i)).take 1=[l[n.dN i]'(by omega)]:=by
   rw[b3a (by omega),b4d,b2T]
  rw[he];cases t<;>first|rfl|cases eF
theorem Qc(hE:bp c.P c.E){T:TypeId}{n:aL}{b e:Nat}(h:ai c.E.ty T=some (.st n,b,e))(ha:n.arr=true){bk o:Nat}{k:IntKind}{i:Nat}(hi:i<n.dv.length)(w:World) :
  (Instr.indexAt T (.pointer (some ⟨bk,o,none⟩)) (.int k (Int.ofNat i))).run c.P w = .ok (.pointer (some ⟨bk,o+n.dN i,none⟩)) w:=by
 obtain⟨e',h1,⟨b',e2,h2⟩,h3⟩:=hE.SA h ha (b1a hi);simp[Instr.indexAt,b1A h1,asIntOf,Instr.sureAddr,hi,hE.sizeOf h2 w,b3f,h3]
theorem a2S(hE:bp c.P c.E){T:TypeId}{n:aL}{b e:Nat}(h:ai c.E.ty T=some (.st n,b,e))(ha:n.arr=true){l:List Value}{k:IntKind}{i:Nat}{t:Ty}(hi:n.dv[i]?=some t)
  (hl:n.dN i+t.size<=l.length) (w:World) :
  (Instr.index T (.agg l.toArray) (.int k (Int.ofNat i))).run c.P w = .ok (yO t ((l.drop (n.dN i)).take t.size)) w:=by
 obtain⟨e',h1,⟨b',e2,h2⟩,h3⟩:=hE.SA h ha hi;have bz:=(b1h.1 hi).1;have cj:=hE.sizeOf h2 w;have hag:=hE.isAgg h2 w;have fu:(0:Int)<=Int.ofNat i/\Int.ofNat i<((n.dv.length:Nat):Int):=⟨b5h i,Int.ofNat_lt.2 bz⟩;simp only[Instr.index,b1j,asIntOf,b1k,b1c,b1A h1,b0T fu,cj,part,hag,show (Int.ofNat i).toNat=i from rfl,<-h3];cases eF:t.agg with
 | true =>
  simp only[b2G,b1j,cj,b1c,b1k];cases t<;>first|(cases eF;done)|skip
  simp only[yO,b4L,b4K,b1i];apply b4u;simp[List.take_drop]
 | false =>
  have h1:=Ty.e9 eF;simp only[b1z,b3H];have hx:l.toArray[n.dN i]?=some (l[n.dN i]'(by omega)):=by rw[b4R];exact b1a (by omega)
  rw[hx];simp only[b1k,h1];have he:(l.drop (n.dN i)).take 1=[l[n.dN i]'(by omega)]:=by
   rw[b3a (by omega),b4d,b2T]
  rw[he];cases t<;>first|rfl|cases eF
end
section
variable {c:Ctx} {G:Gh} {lk:Nat->Option aB} {w:World}
theorem Yb(k:IntKind):k.min<=0/\0<=k.max:=by cases k<;>decide
theorem DR{τ:Ty}{v:Value}(h:vz τ v=true):C1 c G lk w (zeroCell τ) v:=by
 unfold vz at h;split at h
 .simp only[b0U] at h;have h1:=b1n h.1;have h2:=b1n h.2;subst h1 h2;exact⟨rfl,rfl,Yb _⟩
 .rename_i b;cases b
  .exact⟨rfl,rfl⟩
  .cases h
 .rename_i s;exact⟨rfl,s,rfl,List.isEmpty_iff.1 h,by simp[List.isEmpty_iff] at h;simp[ByteArray.size,h]⟩
 .rfl
 .exact⟨rfl,_,rfl⟩
 .cases h
theorem gM{τ:Ty}{z:Value}(h:xb τ z=true):aN (C1 c G lk w) (zeroCells τ) z.cells.toList:=by
 have key:∀ (ts:List Ty) (vs:List Value),JP ts vs=true->aN (C1 c G lk w) (ts.map zeroCell) vs:=by
  intro ts;induction ts with
  | nil=>intro vs h;cases vs<;>first|trivial|cases h
  | cons t ts ih =>
   intro vs h;cases vs with
   | nil=>cases h
   | cons v vs =>
    simp only[JP,b0U] at h;exact⟨DR h.1,ih vs h.2⟩
 have one:∀ v,vz τ v=true->v.cells = #[v]:=by
  intro v hv;unfold vz at hv;split at hv<;>first|rfl|cases hv
 unfold xb at h;split at h
 .rename_i s cs;exact key _ _ h
 .cases h
 .rename_i aW v h1 h2;rw[one _ h];have:zeroCells τ=[zeroCell τ]:=by
   cases τ<;>first|rfl|(rename_i s;cases v<;>first|exact absurd rfl (h2 s rfl)|cases h)
  rw[this];exact⟨DR h,ag⟩
theorem JQ{S:Nat->Prop}{τ:Ty}{z:Value}(h:xb τ z=true):Rd w S (τ.aK τ.zero) z.cells.toList:=by
 have h1:=gM (c:=⟨{ funcs := #[],goVersion := "",platform := "",initOrder := "",godebug := "",types := #[],rt:=default,cutTypes := #[],globals := #[],inits := #[],main:=0 },{ ty:=[],TW:=[],Ka:=λ _ _=>none },w,λ _=>True,S,λ _=>none,λ _=>False,λ _=>none⟩) (G:=⟨S,λ _=>undef,λ _=>[]⟩) (lk:=λ _=>none) (w:=w) h;have cell:∀ t x,C1 ⟨{ funcs := #[],goVersion := "",platform := "",initOrder := "",godebug := "",types := #[],rt:=default,cutTypes := #[],globals := #[],inits := #[],main:=0 },{ ty:=[],TW:=[],Ka:=λ _ _=>none },w,λ _=>True,S,λ _=>none,λ _=>False,λ _=>none⟩ ⟨S,λ _=>undef,λ _=>[]⟩ (λ _=>none) w (zeroCell t) x->Rd w S (t.aK t.zero) [x]:=by
  intro t x hx;cases t with
  | slice t'=>exact Nu (τ := .slice t') (v := .nil) rfl hx
  | _=>exact hx.2
 cases τ with
 | st s =>
  simp only[zeroCells] at h1;show Rd w S (s.aK s.zero) _;rw[aL.bX];have hz:(s.cells s.zero).map TV.aK=s.nk.map λ t=>t.aK t.zero:=by cases s<;>rfl
  rw[hz];have h2:=aN.of_map _ h1;have:∀ (ts:List Ty) (vs:List Value),aN (λ t x=>Rd w S (t.aK t.zero) [x]) ts vs->cQ w S (ts.map λ t=>t.aK t.zero) vs:=by
   intro ts;induction ts with
   | nil=>intro vs h;cases vs<;>first|rfl|cases h
   | cons t ts ih =>
    intro vs h;cases vs with
    | nil=>cases h
    | cons v vs=>exact⟨v,vs,rfl,h.1,ih vs h.2⟩
  exact this _ _ (h2.imp λ t x _ hx=>cell t x hx)
 | _ =>
  simp only[zeroCells] at h1;match hc:z.cells.toList,h1 with
  | [x],h1=>exact cell _ _ h1.1
theorem OL(off:Nat):∀ (xs:List Value) (k:Nat) (l:List Value),off+k+xs.length<=l.length ->
  (xs.zipIdx k).foldl (λ cs p=>cs.setIfInBounds (off+p.2) p.1) l.toArray=(l.take (off+k)++xs++l.drop (off+k+xs.length)).toArray
 | [],k,l,_=>by simp
 | x::xs,k,l,h=>by
  simp only[List.length_cons] at h;simp only[List.zipIdx_cons,List.foldl_cons];have:=OL off xs (k+1) (l.set (off+k) x) (by simp;omega);rw[List.setIfInBounds_toArray,this];congr 1;have e:=list_seg_step l (off+k) x xs (by omega);simpa [Nat.add_assoc] using e
theorem Ke(place:Nat->Option (Nat×Nat))(i off size:Nat)(v:Value)(rest:List (Nat×Value))(l:List Value)(hp:place i=some (off,size))(hs:v.cells.size=size)(hl:off+size<=l.length) :
  Instr.fill place l.toArray ((i,v)::rest)=Instr.fill place (l.take off++v.cells.toList++l.drop (off+size)).toArray rest:=by
 have hn:(decide (v.cells.size≠size)||decide (off+v.cells.size>l.toArray.size))=false:=by
  simp[hs];omega
 simp only[Instr.fill,hp,hn,b1z,b3H];congr 1;rw[<-Array.foldl_toList,Array.toList_zipIdx];have:=OL off v.cells.toList 0 l (by simp[hs];omega);simp only[b2L,b1K,hs] at this;exact this
theorem xH{E:Env}{s:aL}{place:Nat->Option (Nat×Nat)}(hp:∀ i t,s.dv[i]?=some t->place i=some (s.dN i,t.size)) :
  ∀ {ps:List (Nat×AV)} {vs:List (Nat×Value)} {cs dC:List AV} {l:List Value},partsOf E s cs ps=some dC->aN (λ p q=>p.1=q.1/\VR c G lk w p.2 q.2) ps vs->aN (C1 c G lk w) cs l ->
   ∃ l',Instr.fill place l.toArray vs=some l'.toArray/\aN (C1 c G lk w) dC l'
 | [],[],cs,dC,l,h,_,hl=>by
  simp only[partsOf,b0J] at h;subst h;exact⟨l,rfl,hl⟩
 | (i,v)::ps,(j,x)::vs,cs,dC,l,h,hv,hl=>by
  obtain⟨⟨rC,hx⟩,Pa⟩:=hv;have rC:i=j:=rC;subst rC;simp only[partsOf] at h;split at h
  .rename_i τ eF;split at h
   .rename_i new oQ;split at h
    .rename_i cs1 yz;obtain⟨h1,_,h3⟩:=xg oQ hx;have hlen:=h1.length;have Z0:=hl.length;unfold putCells at yz;split at yz
     .rename_i hb;have hb:=b1N hb;simp only[b0J] at yz;subst yz;have cj:x.cells.size=τ.size:=by rw[<-h3,hlen];simp
      have CL:s.dN i+τ.size<=l.length:=by omega
      rw[Ke place i _ _ x vs l (hp i τ eF) cj CL];refine xH hp h Pa ?_;rw[b1o,<-h3];exact (hl.take _).append (h1.append (hl.drop _))
     .cases yz
    .cases h
   .cases h
  .cases h
 | [],_::_,_,_,_,_,hv,_=>hv.elim
 | _::_,[],_,_,_,_,hv,_=>hv.elim
theorem Fi{τ:Ty}{place:Nat->Option (Nat×Nat)}(hp:∀ i,place i=some (i * τ.size,τ.size)) :
  ∀ {ps:List (Nat×AV)} {vs:List (Nat×Value)} {n:Nat} {xs:List τ.den} {l:List Value},qn τ n ps=some xs->aN (λ p q=>p.1=q.1/\VR c G lk w p.2 q.2) ps vs ->
   (n+ps.length) * τ.size=l.length->∃ r,Instr.fill place l.toArray vs=some (l.take (n * τ.size)++r).toArray/\dj w G.S (xs.map τ.aK) r
 | [],[],n,xs,l,h,_,hl=>by
  simp only[qn,b0J] at h;subst h;refine⟨[],?_,rfl⟩;simp only[b1f,b2L] at hl;rw[hl,List.take_length,b1E];rfl
 | (i,v)::ps,(j,x)::vs,n,xs,l,h,hv,hl=>by
  obtain⟨⟨rC,hx⟩,Pa⟩:=hv;have rC:i=j:=rC;subst rC;simp only[qn] at h;split at h
  .rename_i fu;have fu:=b0L fu;subst fu;split at h
   .rename_i y hy;split at h
    .rename_i ys EP;simp only[b0J] at h;subst h;have hr:=(xQ hy hx).cells;have cj:x.cells.size=τ.size:=by
      have:=Rd.length _ hr;rw[show TV.aK ⟨τ,y⟩=τ.aK y from rfl,Ty.cz] at this;simpa using this
     simp only[b0W] at hl;have CO:=τ.size_pos;have e1:(i+(ps.length+1)) * τ.size=i * τ.size+τ.size+ps.length * τ.size:=by
      rw[b1Q,b1Q];omega
     rw[Ke place i _ _ x vs l (hp i) cj (by omega)];obtain⟨r,h1,h2⟩:=Fi hp (l:=l.take (i * τ.size)++x.cells.toList++l.drop (i * τ.size+τ.size)) EP Pa (by
      simp[cj];rw[show (i+1+ps.length) * τ.size=i * τ.size+τ.size+ps.length * τ.size by rw[b1Q,b1Q];omega];omega)
     refine⟨x.cells.toList++r,?_,_,_,rfl,hr,h2⟩;rw[h1];congr 2;rw[show (i+1) * τ.size=i * τ.size+τ.size by rw[b1Q];omega];have ht:(l.take (i * τ.size)++x.cells.toList).length=i * τ.size+τ.size:=by simp[cj];omega
     rw[<-ht,b2S,b1o]
    .cases h
   .cases h
  .cases h
 | [],_::_,_,_,_,_,hv,_=>hv.elim
 | _::_,[],_,_,_,_,hv,_=>hv.elim
theorem AR{τ:Ty}:∀ {ps:List (Nat×AV)} {n:Nat} {xs:List τ.den},qn τ n ps=some xs->xs.length=ps.length
 | [],n,xs,h=>by
  simp only[qn,b0J] at h;subst h;rfl
 | (i,v)::ps,n,xs,h=>by
  simp only[qn] at h;split at h
  .split at h
   .split at h
    .rename_i ys EP;simp only[b0J] at h;subst h;simp[AR EP]
    .cases h
   .cases h
  .cases h
theorem Be(z:Array Value)(k:Nat):(madeCells z ((k+1) * z.size)).toList=(madeCells z (k * z.size)).toList++z.toList:=by
 apply b4p;intro j;have e:(k+1) * z.size=k * z.size+z.size:=by rw[b1Q];omega
 by_cases h1:j<k * z.size
 .rw[b1R (by simp[madeCells];exact h1)];have h2:j<(k+1) * z.size:=by omega
  simp[madeCells,h1,h2]
 .by_cases h2:j<(k+1) * z.size
  .rw[b2H (by simp[madeCells];omega)];have h3:j - k * z.size<z.size:=by omega
   have hm:j % z.size=j - k * z.size:=by
    have h4:(j - k * z.size+z.size * k) % z.size=j - k * z.size:=by rw[Nat.add_mul_mod_self_left,Nat.mod_eq_of_lt h3]
    rwa [Nat.mul_comm z.size k,Nat.sub_add_cancel (Nat.le_of_not_lt h1)] at h4
   simp[madeCells,h2,hm,h3]
  .rw[b2H (by simp[madeCells];omega)];have h3:¬ j - k * z.size<z.size:=by omega
   simp[madeCells,h2];omega
theorem Fz{S:Nat->Prop}{d:D}{z:Array Value}(h:Rd w S d z.toList):∀ k:Nat,dj w S (List.replicate k d) (madeCells z (k * z.size)).toList
 | 0=>by simp[madeCells,dj,Array.range_zero']
 | k+1=>by
  rw[Be,b4U];exact dj.append _ _ (Fz h k) ⟨z.toList,[],by simp,h,rfl⟩
theorem Bf(z:Array Value)(n m:Nat)(h:n<=m):(madeCells z m).toList.take n=(madeCells z n).toList:=by
 apply b4p;intro j;rw[b2e];by_cases hj:j<n
 .have:j<m:=by omega
  simp[madeCells,hj,this]
 .simp[madeCells,hj]
end
def LV(d:Option Nat)(v:AV):aB->Prop
 | .box _=>∃ i,d=some i/\v = .ptr i 0
 | .row .. => ∃ i,d=some i/\v = .row i
 | .aE .. => False
 | .map .. => ∃ i,d=some i/\v = .mp i
def Yf(c:Ctx)(G:Gh)(lk:Nat->Option aB)(w:World)(x:Value):aB->Prop
 | .box cs=>∃ b l t,x = .pointer (some ⟨b,0,none⟩)/\w.heap[b]?=some (.cells l.toArray t (0,0))/\aN (C1 c G lk w) cs l
 | .row e τ xs=>∃ l,w.ownsRow 0 e τ.size x xs.length l/\dj w G.S (xs.map τ.aK) l/\xs.length<=140737488355328
 | .aE .. => False
 | .map m=>∃ b es clock,x = .map (some b)/\w.heap[b]?=some (.map es clock)/\vJ m es
def vI(c:Ctx)(G:Gh)(sl:Nat->AV)(n:Nat)(lk:Nat->Option aB)(d:Option Nat)(a:Act)(w:World)(v:AV)(ob:Option aB)(a':Act)(w':World):Prop :=
 ∃ x S',a'=a.put d x/\bh c ⟨S',G.η,G.φ⟩ sl n lk a w' /\
  match ob with
  | none=>VR c ⟨S',G.η,G.φ⟩ lk w' v x
  | some o=>LV d v o/\Yf c ⟨S',G.η,G.φ⟩ lk w' x o/\∀ b,dw x=some b->w.heap.size<=b/\b<w'.heap.size/\¬ S' b
section
variable {c:Ctx} {G:Gh} {sl:Nat->AV} {n:Nat} {lk:Nat->Option aB} {a:Act} {w w':World}
theorem bh.grow(h:bh c G sl n lk a w)(hk:bK (λ _=>False) w w'){S':Nat->Prop}(hS:∀ b,b<w.heap.size->(S' b↔G.S b))(hLt:∀ b,S' b->b<w'.heap.size):bh c ⟨S',G.η,G.φ⟩ sl n lk a w':=by
 refine h.world ⟨hk.os,hk.tape,hk.output,hk.size,λ b hb _=>hk.block b hb (λ h=>h)⟩ (λ b hb=>(hS b (h.dE b hb)).2 hb) hS (λ b hb=>?_) hLt (λ b hb=>?_) (λ id o b ho hb=>?_) (λ id τ xs b ht hb=>hk.block b (h.aR.pl id τ xs b ht hb).2.2.1 (λ h=>h))
 .have h1:=h.sX b hb;exact (hS b (h.dE b h1)).2 h1
 .refine hk.block b ?_ (λ h=>h);rcases hb with hb|hb
  .exact h.dE b hb
  .exact b0V hb.1 h.aM.size
 .exact hk.block b (h.place id o b ho hb).2.2 (λ h=>h)
theorem fg(w:World)(o:Obj):bK (λ _=>False) w (w.alloc o):=⟨rfl,rfl,rfl,by simp,λ b hb _=>RowKit.Below.heap_alloc w o b hb⟩
theorem bh.alloc(h:bh c G sl n lk a w)(o:Obj):bh c G sl n lk a (w.alloc o) :=
 h.grow (S':=G.S) (fg w o) (λ _ _=>b2F) (λ b hb=>by have:=h.dE b hb;simp;omega)
theorem bh.Uf(h:bh c G sl n lk a w)(hk:bK (λ _=>False) w w')(b:Nat)(hb:St c G.S b):w'.heap[b]?=w.heap[b]?:=by
 refine hk.block b ?_ (λ h=>h);rcases hb with hb|hb
 .exact h.dE b hb
 .exact b0V hb.1 h.aM.size
theorem bh.a6c(h:bh c G sl n lk a w)(hk:bK (λ _=>False) w w'){v:AV}{x:Value}(hv:C1 c G lk w v x):C1 c G lk w' v x :=
 hv.mono (λ _ _=>⟨ew.refl _,rfl⟩) (λ _ h=>h) (h.Uf hk)
theorem cg{o:Oper}{v:AV}{x:Value}{Q:Exit->Act->World->Prop}(hI:bh c G sl n lk a w)(hr:(execOp a.eval o).run c.P w = .ok (.value x) w)(hv:VR c G lk w v x) :
  o.wp c.P a w (vI c G sl n lk o.dst a w v none) Q:=by
 unfold Oper.wp;rw[hr];exact⟨x,G.S,rfl,hI,hv⟩
theorem td{o:Oper}{v:AV}{ob:aB}{x:Value}{Q:Exit->Act->World->Prop}(hI0:bh c G sl n lk a w)(hr:(execOp a.eval o).run c.P w = .ok (.value x) w')(hI:bh c G sl n lk a w')
  (hL:LV o.dst v ob) (hN:Yf c G lk w' x ob) (hb:∀ b,dw x=some b->w.heap.size<=b/\b<w'.heap.size) :
  o.wp c.P a w (vI c G sl n lk o.dst a w v (some ob)) Q:=by
 unfold Oper.wp;rw[hr];exact⟨x,G.S,rfl,hI,hL,hN,λ b h=>⟨(hb b h).1,(hb b h).2,λ hs=>by have:=hI0.dE b hs;have:=(hb b h).1;omega⟩⟩
theorem R2{e:TypeId}{τ:Ty}{xs:List τ.den}{x:Value}{l:List Value}{S S':Nat->Prop}(h1:w.ownsRow 0 e τ.size x xs.length l)(h2:dj w S (xs.map τ.aK) l)(h3:xs.length<=140737488355328)(hS:∀ b,S b->S' b)(hb:∀ b,dw x=some b->S' b) :
  Rd w S' (Ty.aK (.slice τ) xs) [x]:=by
 rcases h1.2 with ⟨hv,hn⟩|⟨g,cap,cur,hv,_,hh,QX,W9,iP,htk⟩
 .have hx:xs=[]:=b1W hn;subst hx;exact⟨none,0,by simp[hv],by simp,by simp[maxLen],by simp, .inl rfl⟩
 .refine⟨some ⟨g,0,none⟩,cap,by simp[hv],by simpa using QX,W9,by simpa using h3,?_⟩;refine .inr ⟨g,0,rfl,hb g (by rw[hv];rfl),?_⟩;refine dj.row _ g 0 (h2.aM hS (λ _ _=>rfl)) λ j v hj=>?_;have:=h1.cells (g:=g) (by rw[hv];rfl) j v hj;rw[Addr.add_lit] at this;exact this
theorem ZJ{o:Oper}{τ:Ty}{xs:List τ.den}{e:TypeId}{x:Value}{l:List Value}{Q:Exit->Act->World->Prop}(hI:bh c G sl n lk a w)(hr:(execOp a.eval o).run c.P w = .ok (.value x) w')(hk:bK (λ _=>False) w w')
  (h1:w'.ownsRow 0 e τ.size x xs.length l) (h2:dj w' G.S (xs.map τ.aK) l) (h3:xs.length<=140737488355328) (hb:∀ b,dw x=some b->w.heap.size<=b/\b<w'.heap.size) :
  o.wp c.P a w (vI c G sl n lk o.dst a w (.aO ⟨.slice τ,xs⟩) none) Q:=by
 unfold Oper.wp;rw[hr];refine⟨x,λ b=>G.S b\/dw x=some b,rfl,hI.grow hk (λ b cv=>⟨λ q=>q.elim id λ q=>absurd (hb b q).1 (by omega), .inl⟩) λ b q=>q.elim (λ q=>Nat.lt_of_lt_of_le (hI.dE b q) hk.size) λ q=>(hb b q).2,?_⟩;exact R2 h1 h2 h3 (λ _ q => .inl q) (λ _ q => .inr q)
theorem LR{v:TV}(h:v.flat=true){S S':Nat->Prop}{w w':World}{cs:List Value}(hr:Rd w S v.aK cs):Rd w' S' v.aK cs:=by
 have one:∀ u:TV,u.τ.agg=false->(match u.τ with | .slice _=>false | .mv _=>false|_=>true)=true->∀ cs,Rd w S u.aK cs->Rd w' S' u.aK cs:=by
  intro u h1 h2 cs h3;obtain⟨τ,y⟩:=u;cases τ<;>first|exact h3|(cases h1;done)|(simp at h2;done)
 obtain⟨τ,y⟩:=v;cases τ with
 | st s =>
  rw[show TV.aK ⟨.st s,y⟩=s.aK y from rfl,aL.bX] at hr ⊢;refine cQ.tF.2 ((cQ.tF.1 hr).imp λ u x hu hx=>?_);refine one u ?_ (b1u.1 h u hu) _ hx;have:=aL.ns s y u hu;obtain⟨aW,z⟩:=u;cases aW with
  | st s'=>simp[TV.aK,Ty.aK,aL.bX,D.leaf] at this
  | _=>rfl
 | slice t=>simp[TV.flat,TV.cells] at h
 | mv t=>simp[TV.flat,TV.cells] at h
 | ptr=>exact hr
 | int k=>exact hr
 | bool=>exact hr
 | str=>exact hr
theorem OJ{v:TV}(h:v.flat=true){S S':Nat->Prop}{w w':World}{x:Value}(hr:dI w S v x):dI w' S' v x:=by
 obtain⟨τ,y⟩:=v;cases τ with
 | st s =>
  obtain⟨cs,h1,h2⟩:=hr;exact⟨cs,h1,LR (v:=⟨.st s,y⟩) h h2⟩
 | _=>exact LR (v:=⟨_,y⟩) (w:=w) (w':=w') (S:=S) (S':=S') h hr
theorem Aq{lk':Nat->Option aB}(bW:∀ id o,lk' id=some o->lk id=some o):∀ id o,pX lk' id=some o->lk id=some o:=by
 intro id o h;unfold pX at h;split at h
 .rename_i cs hc;simp only[b0J] at h;subst h;exact bW _ _ hc
 .cases h
theorem Ar{lk':Nat->Option aB}:∀ id e τ xs,pX lk' id≠some (.row e τ xs):=by
 intro id e τ xs h;unfold pX at h;split at h<;>simp at h
theorem wU{lk':Nat->Option aB}:∀ id τ xs,pX lk' id≠some (.aE τ xs):=by
 intro id τ xs h;unfold pX at h;split at h<;>simp at h
theorem Xx{τ:Ty}{cs:List Value}{x:τ.den}{S:Nat->Prop}(h:dI w S ⟨τ,x⟩ (yO τ cs))(hl:cs.length=τ.size):Rd w S (τ.aK x) cs:=by
 cases τ with
 | st s =>
  obtain⟨dC,h1,h2⟩:=h;simp only[yO,Value.agg.injEq] at h1;have:cs=dC:=by have:=congrArg Array.toList h1;simpa using this
  subst this;exact h2
 | _ =>
  match cs,hl with
  | [v],_=>exact h
theorem CR.fE{v:AV}{x:Value}(h:CR c G lk w v x):VR c G lk w v x:=by
 cases v with
 | aO v=>exact h
 | agg cs=>exact h
 | any=>trivial
 | dX=>exact h
 | gK _=>exact h.elim
 | cP _ _=>exact h.elim
 | nil=>exact h
 | cU v=>exact h
 | ptr i o=>exact h
 | row i=>exact h
 | ep i k o=>exact h
 | fn f=>exact h
 | aE i=>exact h
 | sub i k o z=>exact h
 | eB i k o z=>exact h
 | gR v=>exact h
 | mp i=>exact h
theorem C1.We{v:AV}{x:Value}(h:C1 c G lk w v x):CR c G lk w v x:=by
 cases v with
 | aO v=>exact C1.fE (v := .aO v) h
 | agg cs=>exact h.elim
 | gK cs=>exact h.elim
 | cP f cs=>exact h.elim
 | _=>exact h
theorem CR.inv{v:AV}{x:Value}(h:CR c G lk w v x):(∃ u,v = .aO u/\dI w G.S u x)\/(∃ cs l,v = .agg cs/\x = .agg l.toArray/\aN (C1 c G lk w) cs l)\/C1 c G lk w v x:=by
 cases v with
 | aO v=>exact .inl ⟨v,rfl,h⟩
 | agg cs =>
  obtain⟨l,h1,h2⟩:=h;exact .inr (.inl ⟨cs,l,rfl,h1,h2⟩)
 | _=>exact .inr (.inr h)
theorem VR.We{v:AV}{x:Value}(h:VR c G lk w v x)(hc:v.a0V=true):CR c G lk w v x:=by
 cases v with
 | gK _=>cases hc
 | cP _ _=>cases hc
 | dX=>cases hc
 | gR _=>cases hc
 | _=>exact h
theorem Co{S:Nat->Prop}{lk':Nat->Option aB}(hI:bh c G sl n lk a w)(bW:∀ id o,lk' id=some o->lk id=some o)
  (fv:∀ (τ:Ty) v x (y:τ.den),sO lk' τ v=some y->VR c G lk w v x->dI w S ⟨τ,y⟩ x) {τ:Ty} {v:AV} {x:Value} {y:τ.den} (hy:deref lk' τ v=some y) (hx:VR c G lk w v x):FU w S (.ref ⟨τ,y⟩) x:=by
 unfold deref at hy;split at hy
 .rename_i u hu;obtain⟨b,o,cs,h1,h2,h3,h4⟩:=oo hI.aJ bW hu hx;have h5:=Xx (fv _ _ _ _ hy h4) h3;have CO:=τ.size_pos;have hc0:=h2 0 (cs[0]'(by omega)) (b1a (by omega));exact⟨b,o,cs,h1,World.block_lt_of_cell? w _ hc0,h2,h5⟩
 .cases hy
theorem zK{S:Nat->Prop}{lk':Nat->Option aB}(hI:bh c G sl n lk a w)(bW:∀ id o,lk' id=some o->lk id=some o)
  (fv:∀ (τ:Ty) v x (y:τ.den),sO lk' τ v=some y->VR c G lk w v x->dI w S ⟨τ,y⟩ x) :
  ∀ {ks:List (Bool×Ty)} {vs:List AV} {Z9:List Arg} {xs:List Value},nN lk' ks vs=some Z9->aN (CR c G lk w) vs xs->aN (FU w S) Z9 xs
 | [],[],Z9,xs,h,hv=>by
  simp only[nN,b0J] at h;subst h;match xs,hv with
  | [],_=>trivial
 | (true,τ)::ks,v::vs,Z9,xs,h,hv=>by
  simp only[nN] at h;split at h
  .rename_i y hy;split at h
   .rename_i r hr;simp only[b0J] at h;subst h;match xs,hv with
    | x::xs,hv=>exact⟨Co hI bW fv hy hv.1.fE,zK hI bW fv hr hv.2⟩
   .cases h
  .cases h
 | (false,τ)::ks,v::vs,Z9,xs,h,hv=>by
  simp only[nN] at h;split at h
  .rename_i y hy;split at h
   .rename_i r hr;simp only[b0J] at h;subst h;match xs,hv with
    | x::xs,hv=>exact⟨fv _ _ _ _ hy hv.1.fE,zK hI bW fv hr hv.2⟩
   .cases h
  .cases h
 | [],_::_,_,_,h,_=>by cases h
 | (true,_)::_,[],_,_,h,_=>by cases h
 | (false,_)::_,[],_,_,h,_=>by cases h
theorem tL(hE:bp c.P c.E){f:FuncId}{ej:List Arg}:∀ (ps:List Ty) (r:Ty) (acc:List Arg),zm c.P f ej ps r (Oo c.E f ej ps r acc) acc
 | [],r,acc=>by
  show (Oo c.E f ej [] r acc).1->_;intro hp;generalize hF:Oo c.E f ej [] r acc=F at hp ⊢;rw[Oo] at hF;split at hF
  .rename_i pre v hc;split at hF
   .rename_i y hy;subst hF;have:=TV.aT hy;subst this;obtain⟨h1,h2⟩:=hE.Ka f _ _ _ hc hp;exact⟨h1,h2.ok0⟩
   .subst hF;exact hp.elim
  .subst hF;exact hp.elim
 | t::ts,r,acc=>λ x=>tL hE ts r (acc++[.val ⟨t,x⟩])
theorem Lz{P:Program}{f:FuncId}{ej:List Arg}:∀ {ps:List Ty} {r:Ty} {F:FN ps r} {acc Z9:List Arg} {p:Prop} {y:r.den},zm P f ej ps r F acc->qH ps r F Z9=some (p,y)->p ->
  (jt P f/\HJ P f (acc++Z9++ej) (·=[⟨r,y⟩]))/\∀ z∈Z9,∃ v,z = .val v
 | [],r,F,acc,[],p,y,h,e,hp=>by
  simp only[qH,Option.some.injEq] at e;have h':F.1->jt P f/\HJ P f (acc++ej) (·=[⟨r,F.2⟩]):=h;rw[e] at h';refine⟨by simpa using h' hp,by simp⟩
 | t::ts,r,F,acc, .val z::zs,p,y,h,e,hp=>by
  simp only[qH] at e;split at e
  .rename_i x hx;have h':∀ x,zm P f ej ts r (F x) (acc++[.val ⟨t,x⟩]):=h;obtain⟨h1,h2⟩:=Lz (h' x) e hp;have:=TV.aT hx;subst this;refine⟨by simpa using h1,λ z hz=>?_⟩;rcases List.mem_cons.1 hz with rfl|hz
   .exact⟨_,rfl⟩
   .exact h2 z hz
  .cases e
 | [],_,_,_,_::_,_,_,_,e,_=>by simp[qH] at e
 | _::_,_,_,_,[],_,_,_,e,_=>by simp[qH] at e
 | _::_,_,_,_, .ref _::_,_,_,_,e,_=>by simp[qH] at e
 | _::_,_,_,_, .fn _::_,_,_,_,e,_=>by simp[qH] at e
 | _::_,_,_,_, .cP _::_,_,_,_,e,_=>by simp[qH] at e
theorem zM(hE:bp c.P c.E){S:Nat->Prop}{lk':Nat->Option aB}(hI:bh c G sl n lk a w)(bW:∀ id o,lk' id=some o->lk id=some o)(MD:∀ b,G.S b->S b)
  (fv:∀ (τ:Ty) v x (y:τ.den),sO lk' τ v=some y->VR c G lk w v x->dI w S ⟨τ,y⟩ x) {g:AV} {x:Value} {q:FV} (h:zL c.E lk' g=some q) (hx:VR c G lk w g x):tw c.P w S (.cP q) x:=by
 unfold zL at h;split at h
 .rename_i f cs;split at h
  .rename_i k _;split at h
   .rename_i Z9 has;simp only[b0J] at h;subst h;obtain⟨l,h1,h2⟩:=hx;exact⟨f,Z9,l,h1,tL hE _ _ _,zK hI bW fv has h2⟩
   .cases h
  .cases h
 .simp only[b0J] at h;subst h;obtain⟨f,ej,l,h1,h2,h3⟩:=hx;refine⟨f,ej,l,h1,h2,h3.imp λ u y _ hy=>?_⟩;cases u with
  | val v=>exact dI.mono (G:=G) (G':=⟨S,G.η,G.φ⟩) hy MD (λ _ _=>rfl)
  | ref v =>
   obtain⟨b,o,cs,k1,k2,k3,k4⟩:=hy;refine⟨b,o,cs,k1,?_,k3,Rd.aM MD (λ _ _=>rfl) _ k4⟩;exact k2.elim (hI.dE b) λ k=>b0V k.1 hI.aM.size
  | fn f=>exact hy
  | cP v=>exact hy.elim
  | own v=>exact hy.elim
  | box k=>exact hy.elim
 .rename_i f;split at h
  .rename_i k _;split at h
   .simp only[b0J] at h;subst h;exact⟨f,[],[],hx,tL hE _ _ _,ag⟩
   .cases h
  .cases h
 .cases h
theorem gN(hE:bp c.P c.E){S:Nat->Prop}{lk':Nat->Option aB}(hI:bh c G sl n lk a w)(bW:∀ id o,lk' id=some o->lk id=some o)(MD:∀ b,G.S b->S b)
  (fv:∀ (τ:Ty) v x (y:τ.den),sO lk' τ v=some y->VR c G lk w v x->dI w S ⟨τ,y⟩ x) :
  ∀ {Ts:List TypeId} {vs:List AV} {Z9:List Arg} {xs:List Value},kJ c.E lk' Ts vs=some Z9->aN (VR c G lk w) vs xs->aN (tw c.P w S) Z9 xs
 | [],[],Z9,xs,h,hv=>by
  simp only[kJ,b0J] at h;subst h;match xs,hv with
  | [],_=>trivial
 | T::Ts,v::vs,Z9,xs,h,hv=>by
  simp only[kJ] at h;split at h
  .rename_i p hp;split at h
   .rename_i r hr;simp only[b0J] at h;subst h;match xs,hv with
    | x::xs,hv =>
     refine⟨?_,gN hE hI bW MD fv hr hv.2⟩;have hx:=hv.1;unfold N6 at hp;split at hp
     .split at hp
      .rename_i y hy;simp only[b0J] at hp;subst hp;exact fv _ _ _ _ hy hx
      .cases hp
     .split at hp
      .rename_i τ _;split at hp
       .rename_i y hy;simp only[b0J] at hp;subst hp;exact Co hI bW fv hy hx
       .cases hp
      .split at hp
       .rename_i q hq;simp only[b0J] at hp;subst hp;exact zM hE hI bW MD fv hq hx
       .split at hp
        .simp only[b0J] at hp;subst hp;exact hx
        .cases hp
   .cases h
  .cases h
 | [],_::_,_,_,h,_=>by cases h
 | _::_,[],_,_,h,_=>by cases h
theorem wW{S:Nat->Prop}{res:List TV}{x:Value}(h:E0 w S res x){η:Nat->Value}{φ:Nat->List Nat}:VR c ⟨S,η,φ⟩ lk w (Aw res) x:=by
 match res,h with
 | [v],h=>exact h
 | [],h =>
  obtain⟨l,h1,h2⟩:=h;exact⟨l,h1,aN.dG _ h2⟩
 | v::u::r,h =>
  obtain⟨l,h1,h2⟩:=h;exact⟨l,h1,aN.dG _ h2⟩
theorem RI{S S':Nat->Prop}{res:List TV}{x:Value}(hf:res.all TV.flat=true)(h:E0 w S res x):E0 w S' res x:=by
 have gH:∀ v∈res,v.flat=true:=b1u.1 hf;match res,h,gH with
 | [v],h,gH=>exact OJ (gH v (by simp)) h
 | [],h,gH =>
  obtain⟨l,h1,h2⟩:=h;exact⟨l,h1,h2.imp λ v y hv hy=>OJ (gH v hv) hy⟩
 | v::u::r,h,gH =>
  obtain⟨l,h1,h2⟩:=h;exact⟨l,h1,h2.imp λ v y hv hy=>OJ (gH v hv) hy⟩
theorem LM(hE:bp c.P c.E)(hI:bh c G sl n lk a w){lk':Nat->Option aB}(bW:∀ id o,lk' id=some o->lk id=some o){o:Oper}{f:FuncId}{Ts:List TypeId}{vs:List AV}{xs:List Value}
  {vc:Vc} {v:AV} {ob:Option aB} (hq:DU c.E lk' f Ts vs=some (vc,v,ob)) (dY:vc.ok) (kq:aN (VR c G lk w) vs xs)
  (cE:jt c.P f->(execOp a.eval o).run c.P w = .ok (.enter f xs.toArray) w) {Q:Exit->Act->World->Prop}:o.wp c.P a w (vI c G sl n lk o.dst a w v ob) Q:=by
 have fin:∀ (S:Nat->Prop) (Z9:List Arg) (pre:Vc) (res:List TV),c.E.Ka f Z9=some (pre,res)->pre.ok->aN (tw c.P w S) Z9 xs->iZ w S ->
   (∀ S' w' x,bK (λ _=>False) w w'->(∀ b,b<w.heap.size->(S' b↔S b))->(∀ b,S' b->b<w'.heap.size)->E0 w' S' res x->vI c G sl n lk o.dst a w (Aw res) none (a.put o.dst x) w') ->
   o.wp c.P a w (vI c G sl n lk o.dst a w (Aw res) none) Q:=by
  intro S Z9 pre res hc O9 has bz GX;obtain⟨px,jL⟩:=hE.Ka f Z9 pre res hc O9;unfold Oper.wp;rw[cE px];simp only[Oper.upon];refine (jL w S xs bz has).mono ?_;rintro e w' ⟨x,S',a9k,rfl,rfl,h1,h2,h3,h4⟩;exact GX S' w' x h1 h2 h3 h4
 unfold DU at hq;split at hq
 .rename_i Z9 has;split at hq
  .rename_i pre res hc;simp only[b0J,b0M] at hq;obtain⟨rfl,rfl,rfl⟩:=hq;refine fin G.S Z9 _ _ hc dY (gN hE hI (Aq bW) (λ _ h=>h) (λ τ v x y h1 h2=>xR Ar wU h1 h2) has kq) hI.XV ?_;intro S' w' x h1 h2 h3 h4;exact⟨x,S',rfl,hI.grow h1 h2 h3,wW h4⟩
  .cases hq
 .split at hq
  .rename_i Z9 has;split at hq
   .rename_i pre res hc;split at hq
    .rename_i QT;simp only[b0J,b0M] at hq;obtain⟨rfl,rfl,rfl⟩:=hq;refine fin (SX G lk) Z9 _ _ hc dY (gN hE hI bW (λ _ h => .inl h) (λ τ v x y h1 h2=>vL hI.aR hI.aJ bW h1 h2) has kq) ?_ ?_
     .exact hI.V9
     .intro S' w' x h1 h2 h3 h4;exact⟨x,G.S,rfl,hI.grow (S':=G.S) h1 (λ _ _=>b2F) (λ b hb=>b0V (hI.dE b hb) h1.size),wW (RI QT h4)⟩
    .cases hq
   .cases hq
  .cases hq
theorem Rf{o:Oper}{cl:Call}{fo:Operand}{f:FuncId}{l:List Value}(ho:o.op = .call cl)(hc:cl.callee = .value fo)(hf:a.eval fo = .func (.func f) #[] l.toArray)(px:jt c.P f) :
  (execOp a.eval o).run c.P w = .ok (.enter f (cl.args.toList.map a.eval++l).toArray) w:=by
 obtain⟨fn,h1,h2,h3⟩:=px;have h3':(fn.name = "runtime.NumGoroutine")=False:=by simpa using h3
 have yv:fn.body≠none:=by intro e;simp[e] at h2
 simp[execOp,ho,resolve,hc,Deferred.ofValue,hf,invoke,callFunc,h1,yv,h3']
theorem Ci(hE:bp c.P c.E)(hI:bh c G sl n lk a w){lk':Nat->Option aB}(bW:∀ id o,lk' id=some o->lk id=some o){o:Oper}{cl:Call}{fo:Operand}{g:AV}{Ts:List TypeId}{vs:List AV}
  {vc:Vc} {v:AV} {ob:Option aB} (hq:ye c.E lk' g Ts vs=some (vc,v,ob)) (dY:vc.ok) (kq:aN (VR c G lk w) vs (cl.args.toList.map a.eval)) (bl:o.op = .call cl) (fN:cl.callee = .value fo) (hg:VR c G lk w g (a.eval fo))
  {Q:Exit->Act->World->Prop}:o.wp c.P a w (vI c G sl n lk o.dst a w v ob) Q:=by
 have fin:∀ (S:Nat->Prop) (Z9:List Arg) (q:FV) (pre:Prop) (y:q.r.den),qH q.ps q.r q.F Z9=some (pre,y)->pre->aN (tw c.P w S) Z9 (cl.args.toList.map a.eval)->tw c.P w S (.cP q) (a.eval fo)->iZ w S ->
   (∀ S' w' x,bK (λ _=>False) w w'->(∀ b,b<w.heap.size->(S' b↔S b))->(∀ b,S' b->b<w'.heap.size)->E0 w' S' [⟨q.r,y⟩] x->vI c G sl n lk o.dst a w (Aw [⟨q.r,y⟩]) none (a.put o.dst x) w') ->
   o.wp c.P a w (vI c G sl n lk o.dst a w (Aw [⟨q.r,y⟩]) none) Q:=by
  intro S Z9 q pre y Te O9 has a8I bz GX;obtain⟨f,ej,l,h1,h2,h3⟩:=a8I;obtain⟨⟨px,jL⟩,Vg⟩:=Lz h2 Te O9;unfold Oper.wp;rw[Rf bl fN h1 px];simp only[Oper.upon];simp only[List.nil_append] at jL;have a8x:aN (FU w S) Z9 (cl.args.toList.map a.eval):=has.imp λ u z hu hz=>by
   obtain⟨v,rfl⟩:=Vg u hu;exact hz
  refine (jL w S _ bz (a8x.append h3)).mono ?_;rintro e w' ⟨x,S',a9k,rfl,rfl,h1,h2,h3,h4⟩;exact GX S' w' x h1 h2 h3 h4
 unfold ye at hq;split at hq
 .rename_i r0 Vf;split at Vf
  .rename_i Z9 has;split at Vf
   .rename_i q hqq;split at Vf
    .rename_i pre y Te;simp only[b0J] at Vf hq;subst Vf;simp only[b0M] at hq;obtain⟨rfl,rfl,rfl⟩:=hq;refine fin G.S Z9 q pre y Te dY (gN hE hI (Aq bW) (λ _ h=>h) (λ τ v x y h1 h2=>xR Ar wU h1 h2) has kq) (zM hE hI (Aq bW) (λ _ h=>h) (λ τ v x y h1 h2=>xR Ar wU h1 h2) hqq hg) hI.XV ?_;intro S' w' x h1 h2 h3 h4;exact⟨x,S',rfl,hI.grow h1 h2 h3,wW h4⟩
    .cases Vf
   .cases Vf
  .cases Vf
 .split at hq
  .rename_i Z9 has;split at hq
   .rename_i q hqq;split at hq
    .rename_i pre y Te;split at hq
     .rename_i QT;simp only[b0J,b0M] at hq;obtain⟨rfl,rfl,rfl⟩:=hq;refine fin (SX G lk) Z9 q pre y Te dY (gN hE hI bW (λ _ h => .inl h) (λ τ v x y h1 h2=>vL hI.aR hI.aJ bW h1 h2) has kq) (zM hE hI bW (λ _ h => .inl h) (λ τ v x y h1 h2=>vL hI.aR hI.aJ bW h1 h2) hqq hg) ?_ ?_
      .exact hI.V9
      .intro S' w' x h1 h2 h3 h4;exact⟨x,G.S,rfl,hI.grow (S':=G.S) h1 (λ _ _=>Iff.rfl) (λ b hb=>Nat.lt_of_lt_of_le (hI.dE b hb) h1.size),wW (RI (res:=[⟨q.r,y⟩]) (by simpa using QT) h4)⟩
     .cases hq
    .cases hq
   .cases hq
  .cases hq
theorem gA{o:Oper}{cl:Call}{fo:Operand}{f:FuncId}(ho:o.op = .call cl)(hc:cl.callee = .value fo)(hf:a.eval fo = .func (.func f) #[] #[])(px:jt c.P f) :
  (execOp a.eval o).run c.P w = .ok (.enter f (cl.args.toList.map a.eval).toArray) w:=by
 obtain⟨fn,h1,h2,h3⟩:=px;have h3':(fn.name = "runtime.NumGoroutine")=False:=by simpa using h3
 have yv:fn.body≠none:=by intro e;simp[e] at h2
 simp[execOp,ho,resolve,hc,Deferred.ofValue,hf,invoke,callFunc,h1,yv,h3'];apply b4u;simp
theorem aN.jl{ev:Operand->AV}(cG:∀ x,VR c G lk w (ev x) (a.eval x)):∀ l:List Operand,aN (VR c G lk w) (l.map ev) (l.map a.eval)
 | []=>trivial
 | x::r=>⟨cG x,aN.jl cG r⟩
theorem aN.yX{ev:Operand->AV}(cG:∀ x,VR c G lk w (ev x) (a.eval x)):∀ l:List (Nat×Operand),
  aN (λ p q=>p.1=q.1/\VR c G lk w p.2 q.2) (l.map λ p=>(p.1,ev p.2)) (l.map λ p=>(p.1,a.eval p.2))
 | []=>trivial
 | x::r=>⟨⟨rfl,cG x.2⟩,aN.yX cG r⟩
theorem iX{S:Nat->Prop}{t:Ty}{xs:List t.den}{x:Value}(h:dI w S ⟨.slice t,xs⟩ x):∃ ad cap,x = .slice ad xs.length cap/\xs.length<=cap/\xs.length<=140737488355328 /\
  (xs=[]\/∃ b o,ad=some ⟨b,o,none⟩/\S b/\df w S (xs.map t.aK) b o):=by
 obtain⟨ad,cap,h1,h2,h3,h4,h5⟩:=h;simp only[List.cons.injEq,and_true,List.length_map] at h1;exact⟨ad,cap,h1,by simpa using h2,by simpa using h4,h5.imp (λ h=>by simpa using h) id⟩
theorem a4a(lo hi m n:Int)(h1:lo<=m/\m<=hi)(h2:lo<=n/\n<=hi):lo<=max m n/\max m n<=hi:=by omega
theorem a3Z(m n:Int):(if n>m then n else m)=max m n:=by
 rw[Int.max_def];split<;>split<;>omega
theorem VC(hE:bp c.P c.E){op:BinOp}{T:TypeId}{u v r:AV}{x y:Value}{p:Vc}(ox oy:Operand)
  (h:TL c.E op T u v=some (p,r)) (hp:p.ok) (hu:VR c G lk w u x) (hv:VR c G lk w v y) :
  ∃ z,(do eqGuard op T ox oy x y;binOp op T x y:Sem Value).run c.P w = .ok z w/\VR c G lk w r z:=by
 unfold TL at h;split at h
 .rename_i t r1 τ xs hl;have hy:y = .slice none 0 0:=hv;subst hy;obtain⟨r1,r2⟩:=r1;obtain⟨hT,_⟩:=hE.slice hl;obtain⟨a,cap,h1,_,h3⟩:=iX hu;subst h1;have heq:(Op.equal T (.slice a xs.length cap) (.slice none 0 0)).run c.P w = .ok a.isNone w:=by
   have h9:∀ d:Nat,(Op.equalIn (d+1) T (.slice a xs.length cap) (.slice none 0 0)).run c.P w = .ok a.isNone w:=λ d=>by
    cases a<;>simp[Op.equalIn,b1A hT]
   exact h9 9999
  have key:1<=xs.length->a.isNone=false:=λ hx=>by
   rcases h3.2 with h|⟨b,o,h,_⟩
   .subst h;simp at hx
   .subst h;rfl
  split at h
  .simp only[b0J,b0M] at h;obtain⟨rfl,rfl⟩:=h;refine⟨.bool false,?_,rfl⟩;simp only[eqGuard_at_slice,b1j,b1k,b1c,binOp,heq,key hp]
  .simp only[b0J,b0M] at h;obtain⟨rfl,rfl⟩:=h;refine⟨.bool true,?_,rfl⟩;simp only[eqGuard_at_slice,b1j,b1k,b1c,binOp,heq,key hp];rfl
  .cases h
 .cases h
theorem a0n{S:Nat->Prop}{t:Ty}{ys:List t.den}{ad:Option Addr}{m cap:Nat}(h1:ys.length=m)(h2:m<=cap)(h3:cap<=maxLen)(h4:m<=140737488355328)
  (h5:ys=[]\/∃ b o,ad=some ⟨b,o,none⟩/\S b/\df w S (ys.map t.aK) b o):dI w S ⟨.slice t,ys⟩ (.slice ad m cap):=by
 subst h1;exact⟨ad,cap,by simp,by simpa using h2,h3,by simpa using h4,h5.imp (λ h=>by simp[h]) id⟩
theorem oz(hE:bp c.P c.E){T:TypeId}{t:Ty}{b e:Nat}(h:ai c.E.ty T=some (.slice t,b,e)){bk o len cap:Nat}{k:IntKind}{i:Int}(h0:0<=i)(h1:i<len)(w:World) :
  (Instr.indexAt T (.slice (some ⟨bk,o,none⟩) len cap) (.int k i)).run c.P w = .ok (.pointer (some ⟨bk,o+i.toNat * t.size,none⟩)) w:=by
 obtain⟨h2,⟨b',e',h3⟩,_⟩:=hE.slice h;simp[Instr.indexAt,b1A h2,asIntOf,h0,h1,hE.sizeOf h3 w,b3f]
theorem Fj(s:aL)(y:s.den)(i:Nat){f:TV}(hf:(s.fields y)[i]?=some f):((s.cells y).drop (s.dN i)).take f.τ.size=f.cells/\s.dN i+f.τ.size<=s.size:=by
 have vE:∀ v:TV,v.cells.length=v.τ.size:=by
  rintro⟨τ,x⟩;cases τ<;>first|rfl|exact aL.fV _ _
 have key:∀ (l:List TV) (i:Nat) (f:TV),l[i]?=some f->((l.flatMap TV.cells).drop ((l.map TV.τ).take i |>.map Ty.size).sum).take f.τ.size=f.cells/\(((l.map TV.τ).take i).map Ty.size).sum+f.τ.size<=(l.flatMap TV.cells).length:=by
  intro l;induction l with
  | nil=>intro i f h;simp at h
  | cons g l ih =>
   intro i f h;cases i with
   | zero =>
    simp at h;subst h;have:=vE g;simp only[b2T,b2k,List.sum_nil,b4g,b2y,b0Y,b2l];exact⟨by rw[<-this,b2S],by omega⟩
   | succ i =>
    obtain⟨h1,h2⟩:=ih i f (by simpa using h);simp only[List.map_cons,List.take_succ_cons,List.sum_cons,List.flatMap_cons,List.length_append,<-vE g];refine⟨?_,by omega⟩;rw[<-List.drop_drop,List.drop_left];exact h1
 have:=key _ i f hf;rw[<-aL.E9,aL.Cw,aL.fV] at this;exact this
theorem LQ{S:Nat->Prop}{s:aL}{y:s.den}{i:Nat}{f:TV}(hf:(s.fields y)[i]?=some f){cs:List Value}(h:Rd w S (TV.aK ⟨.st s,y⟩) cs):Rd w S f.aK ((cs.drop (s.dN i)).take f.τ.size):=by
 obtain⟨h1,_⟩:=Fj s y i hf;rw[show TV.aK ⟨.st s,y⟩=s.aK y from rfl,aL.bX] at h;have h2:=((cQ.tF.1 h).drop (s.dN i)).take f.τ.size;rw[h1] at h2;obtain⟨τ,x⟩:=f;cases τ with
 | st s' =>
  show Rd w S (s'.aK x) _;rw[aL.bX];exact cQ.tF.2 h2
 | _ =>
  simp only[TV.cells] at h2;match hc:(cs.drop (s.dN i)).take (Ty.size _),h2 with
  | [v],h2=>exact h2.1
theorem UP{S:Nat->Prop}{s:aL}{y:s.den}{i:Nat}{f:TV}(hf:(s.fields y)[i]?=some f){cs:List Value}(h:Rd w S (s.aK y) cs):s.dN i+f.τ.size<=cs.length/\True:=by
 obtain⟨_,h1⟩:=Fj s y i hf;have:=Rd.length _ h;rw[aL.bX] at this;simp only[D.size,b1F,aL.fV] at this;exact⟨by omega,ag⟩
theorem pT{n:aL}{i:Nat}{v r:AV}{x:Value}(h:Ir n i v=some r)(hx:VR c G lk w v x) :
  ∃ b o,x = .pointer (some ⟨b,o,none⟩)/\i<n.dv.length/\VR c G lk w r (.pointer (some ⟨b,o+n.dN i,none⟩)):=by
 unfold Ir at h;split at h
 .split at h
  .rename_i y hy;have e:=TV.aT hy;subst e;split at h
   .rename_i f hf;simp only[b0J] at h;subst h;obtain⟨b,o',cs,h1,h2,h3,h4⟩:=hx;refine⟨b,o',h1,?_,b,o'+n.dN i,(cs.drop (n.dN i)).take f.τ.size,rfl,h2,h3.part _ _,LQ hf h4⟩;have:=(b1h.1 hf).1;rw[<-aL.Cw n y,b1F];exact this
   .cases h
  .cases h
 .split at h
  .rename_i bz;simp only[Option.some.injEq] at h;subst h;have bz:i<n.dv.length:=by simpa [Nat.blt_eq] using bz
   obtain⟨b,h1,h2,h3⟩:=hx;exact⟨b,_,h2,bz,b,h1,rfl,h3⟩
  .cases h
 .split at h
  .rename_i bz;simp only[Option.some.injEq] at h;subst h;have bz:i<n.dv.length:=by simpa [Nat.blt_eq] using bz
   obtain⟨b,m,cap,e,τ,xs,h1,h2,h3,h4⟩:=hx;exact⟨b,_,h4,bz,b,m,cap,e,τ,xs,h1,h2,h3,by rw[b3B]⟩
  .cases h
 .cases h
theorem Is{n:aL}{i:Nat}{v r:AV}{x:Value}(h:Nz n i v=some r)(hx:VR c G lk w v x) :
  ∃ (cs:List Value) (t:Ty),x = .agg cs.toArray/\n.dv[i]?=some t/\n.dN i+t.size<=cs.length/\VR c G lk w r (yO t ((cs.drop (n.dN i)).take t.size)):=by
 unfold Nz at h;split at h
 .split at h
  .rename_i y hy;have e:=TV.aT hy;subst e;split at h
   .rename_i f hf;simp only[b0J] at h;subst h;obtain⟨cs,h1,h2⟩:=hx;have hty:n.dv[i]?=some f.τ:=by rw[<-aL.Cw n y,b2i,hf];rfl
    obtain⟨h3,h4⟩:=UP hf h2;exact⟨cs,f.τ,h1,hty,h3,dI.mk_ (LQ hf h2)⟩
   .cases h
  .cases h
 .split at h
  .rename_i τ eF;obtain⟨l,h1,h2⟩:=hx;obtain⟨h3,h4,h5⟩:=CC h2 h;exact⟨l,τ,h1,eF,h5,h3⟩
  .cases h
 .cases h
theorem Ty.size_le(τ:Ty):τ.size<=100:=by
 have:∀ s:aL,s.size<=100:=by intro s;cases s<;>decide
 cases τ<;>first|exact this _|(simp[Ty.size];done)
theorem Rd.jF{S:Nat->Prop}{τ:Ty}{x:τ.den}{cs:List Value}(h:Rd w S (τ.aK x) cs):∀ u∈cs,u.oneCell'=true:=by
 cases τ with
 | st s =>
  rw[show Ty.aK (.st s) x=s.aK x from rfl,aL.bX] at h;have ha:=cQ.tF.1 h;intro u hu;obtain⟨i,hi,hiu⟩:=b2R hu;have hlen:=ha.length;obtain⟨b,hb,hr⟩:=ha.at_ i (s.cells x)[i] (b1a (by omega));have hbu:b=u:=by
   have:cs[i]?=some u:=by rw[b1a hi,hiu]
   rw[this] at hb;exact (b1Y hb).symm
  subst hbu;obtain⟨z,h1,h2⟩:=Rd.rN (aL.ns s x _ (b2B _)) hr;simp only[b0O,b1i] at h1;subst h1;exact wQ h2
 | _ =>
  obtain⟨z,rfl,h2⟩:=Rd.rN (iI (v:=⟨_,x⟩) rfl) h;intro u hu;simp only[b0Z] at hu;subst hu;exact wQ h2
theorem dj.jF{S:Nat->Prop}{τ:Ty}:∀ {xs:List τ.den} {l:List Value},dj w S (xs.map τ.aK) l->∀ u∈l,u.oneCell'=true
 | [],l,h=>by rw[show l=[] from h];simp
 | x::xs,l,h=>by
  obtain⟨c1,r,rfl,h2,h3⟩:=h;intro u hu;rcases b0K.1 hu with hu|hu
  .exact Rd.jF h2 u hu
  .exact dj.jF h3 u hu
def Src(w:World)(S:Nat->Prop)(τ:Ty)(ys:List τ.den)(z:Value):Prop :=
 ∃ ad cap,z = .slice ad ys.length cap/\(ys=[]\/∃ b o news,ad=some ⟨b,o,none⟩/\bo w b o news/\dj w S (ys.map τ.aK) news)
theorem Du{lk lk':Nat->Option aB}(bW:∀ id o,lk' id=some o->lk id=some o)(id:Nat)(o:aB)(h:Jf lk' id=some o):lk id=some o:=by
 unfold Jf at h;split at h
 .cases h
 .exact bW id o h
theorem VD{lk:Nat->Option aB}(id:Nat)(τ:Ty)(xs:List τ.den):Jf lk id≠some (.aE τ xs):=by
 unfold Jf;split
 .simp
 .rename_i iF;exact iF _ _
theorem Yi(jx:∀ id o,lk id=some o->OR c G lk w id o){lk':Nat->Option aB}(bW:∀ id o,lk' id=some o->lk id=some o)(Kt:∀ id τ xs,lk' id≠some (.aE τ xs)){τ:Ty}{v:AV}{z:Value}{ys:List τ.den}(h:iR lk' (.slice τ) v=some ys)
  (hv:C1 c G lk w v z):Src w G.S τ ys z:=by
 cases v with
 | aO u =>
  have e:=TV.aT h;subst e;obtain⟨ad,cap,h1,h2,h3,h4⟩:=iX (show dI w G.S ⟨.slice τ,ys⟩ z from hv.2);refine⟨ad,cap,h1,h4.imp id ?_⟩;rintro⟨b,o,h5,h6,h7⟩;obtain⟨news,h8,h9⟩:=df.cells _ b o h7;exact⟨b,o,news,h5,h9,h8⟩
 | nil =>
  simp only[iR,b0J] at h;subst h;exact⟨none,0,hv, .inl rfl⟩
 | row id =>
  simp only[iR] at h;split at h
  .rename_i e aW xs hl;have e1:=TV.aT h;cases e1;have mW:=bW _ _ hl;obtain⟨l,h1,h2,h3⟩:=jx _ _ mW;rcases h1.2 with ⟨Tv,hn⟩|⟨g,cap,cur,Tv,_⟩
   .exact⟨none,0,by rw[hv.1,Tv,hn], .inl (b1W hn)⟩
   .refine⟨some ⟨g,0,none⟩,cap,by rw[hv.1,Tv], .inr ⟨g,0,l,rfl,?_,h2⟩⟩;intro j u hj;have:=h1.cells (g:=g) (by rw[Tv];rfl) j u hj;rw[b3f] at this;exact this
  .cases h
 | aE id =>
  simp only[iR] at h;split at h
  .rename_i hl;exact absurd hl (Kt _ _ _)
  .cases h
 | _=>cases h
theorem LA{S:Nat->Prop}{base:Nat}(hE:bp c.P c.E){T:TypeId}{τ:Ty}{b e n:Nat}{v z:Value}{l:List Value}{ys:List τ.den}(hT:ai c.E.ty T=some (.slice τ,b,e))(dM:w.ownsRow base e τ.size v n l)
  (Kn:base<=w.heap.size) (fv:Src w S τ ys z) (z8:bC (n+ys.length) b) (ty:TypeId) :
  ∃ v' w' news,(Builtin.append_ #[T,T] ty #[v,z]).run c.P w = .ok v' w'/\w'.ownsRow base e τ.size v' (n+ys.length) (l++news)/\w.grownBy w' v.ownBlock/\(v'.ownBlock=v.ownBlock\/v'.ownBlock=some w.heap.size) /\
   dj w S (ys.map τ.aK) news/\n+ys.length<=140737488355328:=by
 obtain⟨k1,⟨b',e',k2⟩,i,zv,k3,k4,k5,k6,k7⟩:=hE.slice hT;have Kx:zv.cells.size=τ.size:=by
  have:=Rd.length _ (JQ (w:=w) (S:=S) k7);rwa [Ty.cz,b1K] at this
 have CO:=τ.size_pos;have QY:(n+ys.length) * b<=140737488355328/\n+ys.length<=140737488355328:=by
  unfold bC at z8;rw[Nat.mul_add,Nat.mul_one] at z8;omega
 have IQ:n+ys.length<=maxLen:=by simp only[maxLen];omega
 obtain⟨ad,cap,h1,h4⟩:=fv;subst h1;by_cases hy:ys=[]
 .subst hy;simp only[b1f,b2L] at *
  cases ad with
  | none =>
   refine⟨v,w,[],?_,by simpa using dM,⟨rfl,rfl,rfl,Nat.le_refl _,λ _ _ _=>rfl⟩, .inl rfl,rfl,QY.2⟩;rcases dM.2 with ⟨rfl,rfl⟩|⟨g,Om,cur,rfl,_,_,QX,_⟩
   .simp[Builtin.append_,b1A k1,sizeOf,typeInfo,k3,Builtin.lenOf,Builtin.firstCells]
   .simp[Builtin.append_,b1A k1,sizeOf,typeInfo,k3,Builtin.lenOf,Builtin.firstCells,QX,storeCells]
  | some ad =>
   obtain⟨v',w',m1,m2,m3,_,m5⟩:=run_append_own_at (P:=c.P) w base T ty e i zv τ.size b k1 k3 k6 k4 k5 Kx CO v n l dM ad 0 cap [] (by simp) (by simp) (by simp) IQ QY.1 Kn;exact⟨v',w',[],m1,m2,m3,m5,rfl,QY.2⟩
 .rcases h4 with h4|⟨bk,o',news,rfl,h8,h7⟩
  .exact absurd h4 hy
  .skip;have hlen:news.length=ys.length * τ.size:=by
    have:=dj.length (n:=τ.size) _ h7 (by
     intro d hd;obtain⟨y,_,rfl⟩:=b0P.1 hd;exact Ty.cz τ y)
    simpa using this
   obtain⟨v',w',m1,m2,m3,_,m5⟩:=run_append_own_at (P:=c.P) w base T ty e i zv τ.size b k1 k3 k6 k4 k5 Kx CO v n l dM ⟨bk,o',none⟩ ys.length cap news hlen (λ j u hj=>by rw[b3f];exact h8 j u hj) (dj.jF h7) IQ QY.1 Kn;exact⟨v',w',news,m1,m2,m3,m5,h7,QY.2⟩
theorem Oi{ev:Operand->AV}(cG:∀ x,VR c G lk w (ev x) (a.eval x)){d l:Int}{lo:Option Operand}(h:nM d (lo.map ev)=some l):(lo=none/\l=d)\/∃ k,lo.map a.eval=some (.int k l):=by
 cases lo with
 | none =>
  simp only[b3X,nM,b0J] at h;exact .inl ⟨rfl,h.symm⟩
 | some x =>
  simp only[b3l,nM] at h;split at h
  .rename_i hn;cases hn
  .rename_i k n hn;simp only[b0J] at h hn;subst h;have hx:=cG x;rw[hn] at hx;obtain⟨hx,_⟩:=hx;simp only[b0O,b1i] at hx;exact .inr ⟨k,by simp[hx]⟩
  .cases h
theorem LK{ev:Operand->AV}(cG:∀ x,VR c G lk w (ev x) (a.eval x)){l h:Int}{len cap:Nat}{lo hi:Option Operand}(sl:Bool)(hl:nM 0 (lo.map ev)=some l)(hh:nM (len:Int) (hi.map ev)=some h)
  (hc:mJ l h len) (CI:len<=cap) (P:Program) (w':World):(Instr.sliceBounds sl len cap (lo.map a.eval) (hi.map a.eval) none).run P w' = .ok (l.toNat,h.toNat,cap) w':=by
 obtain⟨h0,h1,h2⟩:=hc;have e1:(h.toNat:Int)=h:=Int.toNat_of_nonneg (by omega);rcases Oi cG hl with ⟨rfl,rfl⟩|⟨k,hk⟩<;>rcases Oi cG hh with ⟨rfl,rfl⟩|⟨k',eX⟩
 .simp[Instr.sliceBounds]
 .simp[Instr.sliceBounds,eX,b4S,show 0<=h from by omega,show h<=(cap:Int) from by omega]
 .simp[Instr.sliceBounds,hk,b4S,h0,h1]
 .simp[Instr.sliceBounds,hk,eX,b4S,h0,h1,show 0<=h from by omega,show h<=(cap:Int) from by omega,e1]
theorem L8{n m:Int}{b:Nat}(h:dH n m b):0<=n/\n<=m/\m<=140737488355328/\(b:Int) * m<=140737488355328:=by
 obtain⟨h1,h2,h3⟩:=h;have e:m * ((b:Int)+1)=m * b+m:=by rw[Int.mul_add,Int.mul_one]
 have p:0<=m * (b:Int):=Int.mul_nonneg (by omega) (by omega);have q:(b:Int) * m=m * b:=Int.mul_comm _ _;exact⟨h1,h2,by omega,by omega⟩
theorem a0f(hE:bp c.P c.E){T:TypeId}{τ:Ty}{b e:Nat}(hT:ai c.E.ty T=some (.slice τ,b,e)){n m:Int}(h:dH n m b)(w:World)
  (cf:∀ w',bK (λ _=>False) w w'->∀ b,G.S b->w'.heap[b]?=w.heap[b]?) :
  ∃ cap cs,(Instr.makeSlice T (.int .i64 n) (.int .i64 m)).run c.P w = .ok (.slice (some ⟨w.heap.size,0,none⟩) n.toNat cap) (w.alloc (.cells cs e)) /\
   Yf c G lk (w.alloc (.cells cs e)) (.slice (some ⟨w.heap.size,0,none⟩) n.toNat cap) (.row e τ (List.replicate n.toNat τ.zero)):=by
 obtain⟨v1,v2,v3,v4⟩:=L8 h;obtain⟨h1,_,i,z,h3,h4,h5,h6,h7⟩:=hE.slice hT;have hzr:=JQ (w:=w) (S:=G.S) h7;have hzl:=Rd.length _ hzr;rw[Ty.cz,b1K] at hzl;have hr:=run_make (P:=c.P) w T e i z h1 h3 h6 .i64 .i64 n m v1 v2 (by rw[h5];omega) (by omega);refine⟨m.toNat,madeCells z.cells (m.toNat * i.size),hr,(madeCells z.cells (n.toNat * z.cells.size)).toList,?_,?_,by simp;omega⟩
 .refine⟨by simp[madeCells,hzl], .inr ⟨w.heap.size,m.toNat,madeCells z.cells (m.toNat * i.size),by simp,b1G _,b2g w _,by simp;omega,by simp only[maxLen];omega,by simp[size_madeCells,h4],?_⟩⟩;rw[h4,hzl,List.length_replicate];exact Bf _ _ _ (b2u _ (by omega))
 .rw[b5i];exact dj.aM (λ _ h=>h) (cf _ (fg w _)) _ (Fz hzr n.toNat)
theorem bp.map(hE:bp c.P c.E){T:TypeId}{κ ε:Ty}(h:ai c.E.Ja T=some (κ,ε))(w:World) :
  ∃ kT eT,c.P.underlying T=some (.map kT eT)/\HH c.P kT κ/\κ.Fw=true/\ε.key=true/\∃ z,(zeroValue eT).run c.P w = .ok z w/\nF ε ε.zero z:=by
 have:=hE.Ja T κ ε h;unfold PG at this;split at this
 .rename_i k e hu;split at this
  .rename_i κ' r ε' r' hk he;simp only[b0U,b0R] at this;obtain⟨rfl,rfl,h3,h4,Z8⟩:=this;obtain⟨i,z,k1,k2,k3,k4⟩:=(hE.info he).ex;have hz:=JQ (w:=w) (S:=λ _=>False) k4;refine⟨k,e,hu,?_,h3,h4,z,by simp[zeroValue,typeInfo,k1,k3],?_⟩
   .obtain⟨b,e'⟩:=r;cases κ' with
    | int q=>exact⟨Go.Maps.int_keyed (hE.int hk),λ x v h=>by
      obtain⟨h1,h2⟩:=h w (λ _=>False);simp only[List.cons.injEq,and_true] at h1;subst h1;exact⟨_,Go.Maps.keyOf_int_mk (hE.int hk) (by simpa [Lit.wf] using h2)⟩⟩
    | bool=>exact⟨Go.Maps.bool_keyed (hE.bool hk),λ x v h=>by
      have h1:=h w (λ _=>False);simp only[Ty.aK,Rd,b0O,b1i] at h1;subst h1;exact⟨_,Go.Maps.keyOf_bool_mk (hE.bool hk) _⟩⟩
    | str=>exact HH.str (hE.str hk) w
    | st s =>
     simp only[Ty.Fw,b0U,b0R] at h3;obtain⟨e1,n1,n2⟩:=hE.arr hk h3.1;rw[h3.2.2] at n1 n2;obtain⟨b2,e2,n3⟩:=n2 (.int .i64) (by simp);obtain⟨i1,z1,i2,i3,_⟩:=(hE.info n3).ex;obtain⟨i4,z4,i5,i6,_⟩:=(hE.info hk).ex;have hA:Go.WideMaps.ArrKey c.P k e1 2:=⟨n1,by simp[Program.plainKey,hE.int n3],by simp[Program.cellsOf,i2,i3,Ty.size],by
      have:s.size=2:=by rw[<-aL.fV s s.zero,<-b1F (f:=TV.τ),aL.jd,h3.2.1];rfl
      simp[Program.cellsOf,i5,i6,Ty.size,this]⟩
     refine⟨Go.Maps.Keyed.of_law hA.law,λ x v h=>?_⟩;obtain⟨a,b,_,rfl,ha,hb⟩:=h;refine⟨_,Go.WideMaps.keyOf_pair hA (hE.int n3) ?_ (by simpa [Lit.wf] using (show IntKind.i64.min<=a/\a<=IntKind.i64.max from ha)) (by simpa [Lit.wf] using (show IntKind.i64.min<=b/\b<=IntKind.i64.max from hb))⟩;have:0<c.P.types.size:=by simpa [Nat.blt_eq] using Z8
     exact⟨c.P.types.size - 1,by omega⟩
    | _=>cases h3
   .have hc:z.cells.toList=[z]:=by
     cases ε'<;>cases z<;>first|rfl|(cases h4;done)|(simp[xb,vz] at k4;done)
    rw[hc] at hz;exact nF.of h4 hz
  .cases this
 .cases this
theorem Hw(hE:bp c.P c.E)(hI:bh c G sl n lk a w){lk':Nat->Option aB}(bW:∀ id o,lk' id=some o->lk id=some o){ev:Operand->AV}(cG:∀ x,VR c G lk w (ev x) (a.eval x))
  {o:Oper} {vc:Vc} {v:AV} {ob:Option aB} (hq:Hv c.E lk' ev o=some (vc,v,ob)) (dY:vc.ok) {Q:Exit->Act->World->Prop} :
  o.wp c.P a w (vI c G sl n lk o.dst a w v ob) Q:=by
 unfold Hv at hq;split at hq;case h_1 x bl =>
  simp only[b0J,b0M] at hq;obtain⟨rfl,rfl,rfl⟩:=hq;exact cg hI (by simp[execOp,bl]) (cG x)
 case h_2 x bl =>
  simp only[b0J,b0M] at hq;obtain⟨rfl,rfl,rfl⟩:=hq;exact cg hI (by simp[execOp,bl]) (cG x)
 case h_3 cc x y bl =>
  split at hq
  .rename_i hc;simp only[b0J,b0M] at hq;obtain⟨rfl,rfl,rfl⟩:=hq;have h1:=cG cc;rw[hc] at h1;have h1:[a.eval cc]=[.bool true]:=h1;simp only[b0O,b1i] at h1;exact cg hI (by simp[execOp,bl,h1,asBool]) (cG x)
  .rename_i hc;simp only[b0J,b0M] at hq;obtain⟨rfl,rfl,rfl⟩:=hq;have h1:=cG cc;rw[hc] at h1;have h1:[a.eval cc]=[.bool false]:=h1;simp only[b0O,b1i] at h1;exact cg hI (by simp[execOp,bl,h1,asBool]) (cG y)
  .cases hq
 case h_4 T bl =>
  split at hq
  .rename_i d τ r hd hT;simp only[b0J,b0M] at hq;obtain⟨rfl,rfl,rfl⟩:=hq;obtain⟨i,z,h1,h2,h3,h4⟩:=(hE.info hT).ex;refine td hI (x := .pointer (some ⟨w.heap.size,0,none⟩)) (w':=w.alloc (.cells z.cells T)) ?_ (hI.alloc _) ⟨d,hd,rfl⟩ ?_ ?_
   .simp[execOp,bl,Instr.alloc,zeroValue,typeInfo,h1,h3,newVar,newRow]
   .exact⟨_,z.cells.toList,T,rfl,by simpa using heap_alloc_new w _,gM h4⟩
   .intro b hb;simp only[dw,b0J] at hb;subst hb;simp
  .cases hq
 case h_5 T x bl =>
  split at hq
  .rename_i d τ r hd hT;split at hq
   .split at hq
    .rename_i y hy;simp only[b0J,b0M] at hq;obtain⟨rfl,rfl,rfl⟩:=hq;have fv:=dI.cells (xQ (c:=c) (G:=G) (lk:=lk) hy (cG x));have hk:=fg w (.cells (a.eval x).cells T);have cj:(w.alloc (.cells (a.eval x).cells T)).heap.size=w.heap.size+1:=by simp
     have vC:=hI.grow (S':=λ b=>G.S b\/b=w.heap.size) hk (λ b hb=>⟨λ h=>h.elim id λ e=>by omega, .inl⟩) (λ b hb=>by
      rcases hb with hb|hb
      .have:=hI.dE b hb;omega
      .omega)
     have cE:(execOp a.eval o).run c.P w = .ok (.value (.pointer (some ⟨w.heap.size,0,none⟩))) (w.alloc (.cells (a.eval x).cells T)):=by
      simp[execOp,bl,Instr.box,newVar,newRow]
     unfold Oper.wp;rw[cE];refine⟨_,_,rfl,vC,?_⟩;refine⟨w.heap.size,0,(a.eval x).cells.toList,rfl, .inl (.inr rfl),?_,Rd.aM (λ _ h => .inl h) (λ b hb=>hk.block b (hI.dE b hb) λ h=>h) _ fv⟩;have:=heap_alloc_new w (.cells (a.eval x).cells T);exact Ck (p:=[]) (c:=(a.eval x).cells.toList) (r:=[]) (by simpa using this)
    .cases hq
   .split at hq
    .rename_i cs iP;simp only[b0J,b0M] at hq;obtain⟨rfl,rfl,rfl⟩:=hq;obtain⟨h1,_,_⟩:=xg iP (cG x);refine td hI (x := .pointer (some ⟨w.heap.size,0,none⟩)) (w':=w.alloc (.cells (a.eval x).cells T)) ?_ (hI.alloc _) ⟨d,hd,rfl⟩ ?_ ?_
     .simp[execOp,bl,Instr.box,newVar,newRow]
     .exact⟨_,(a.eval x).cells.toList,T,rfl,by simpa using heap_alloc_new w _,h1.imp λ u y _ hy=>hI.a6c (fg w _) hy⟩
     .intro b hb;simp only[dw,b0J] at hb;subst hb;simp
    .cases hq
  .cases hq
 case h_6 T parts bl =>
  split at hq
  .rename_i s r hT;split at hq
   .rename_i cs iP;simp only[b0J,b0M] at hq;obtain⟨rfl,rfl,rfl⟩:=hq;obtain⟨i,z,h1,h2,h3,h4⟩:=(hE.info hT).ex;cases YB:s.arr with
    | true =>
     obtain⟨e',h5,gH⟩:=hE.arr hT YB;have Tr:∀ i t,s.dv[i]?=some t->(λ j=>some (j * c.P.cellsOf e',c.P.cellsOf e')) i=some (s.dN i,t.size):=by
      intro i t hi;obtain⟨e1,k1,⟨b',e2,k2⟩,k3⟩:=hE.SA hT YB hi;rw[h5] at k1;simp only[b0J,b4V,b2o] at k1;subst k1;obtain⟨i',_,jw,cj,_⟩:=(hE.info k2).ex;simp[k3,Program.cellsOf,jw,cj]
     obtain⟨l',h8,h9⟩:=xH (c:=c) (G:=G) (lk:=lk) (w:=w) Tr iP (aN.yX cG _) (gM h4);have hb:c.P.built T ((parts.map λ (i,x)=>(i,a.eval x)).toList)=some l'.toArray:=by
      unfold Program.built;rw[h1,h5];have CO:0<s.dv.length:=by
       revert YB;cases s<;>first|(intro h;cases h;done)|(intro _;decide)
      obtain⟨b2,e2,k2⟩:=gH _ (b2B CO);obtain⟨i',_,jw,_,_⟩:=(hE.info k2).ex;simp only[h3,jw];rw[<-h8];have:c.P.cellsOf e'=i'.size:=by simp[Program.cellsOf,jw]
      rw[this];congr 1;simp
     refine cg hI (x := .agg l'.toArray) ?_ ⟨l',rfl,h9⟩;simp[execOp,bl,run_build w T _ _ hb]
    | false =>
    obtain⟨fs,h5,h6,h7⟩:=hE.st hT YB;have O7:fs.toList.mapM (λ f=>(c.P.info? f.type).map λ i=>(f.offset,i.size))=some (fs.toList.map λ f=>(f.offset,c.P.cellsOf f.type)):=by
     have:∀ l:List Field,(∀ f∈l,∃ i,c.P.info? f.type=some i)->l.mapM (λ f=>(c.P.info? f.type).map λ i=>(f.offset,i.size))=some (l.map λ f=>(f.offset,c.P.cellsOf f.type)):=by
      intro l;induction l with
      | nil=>intro _;rfl
      | cons f l ih =>
       intro hl;obtain⟨i,hi⟩:=hl f (by simp);simp[b3e,hi,ih λ f hf=>hl f (by simp[hf]),Program.cellsOf]
     refine this _ λ f hf=>?_;obtain⟨j,hj,hjf⟩:=List.getElem_of_mem hf;obtain⟨t,b,e,_,k2,_⟩:=h7 j f (by rw[Array.getElem?_eq_getElem (by simpa using hj)];simpa using hjf);obtain⟨i,_,hi,_⟩:=(hE.info k2).ex;exact⟨i,hi⟩
    have Tr:∀ i t,s.dv[i]?=some t->(fs.toList.map λ f=>(f.offset,c.P.cellsOf f.type)).toArray[i]?=some (s.dN i,t.size):=by
     intro i t hi;have bz:i<fs.size:=by have:=(b1h.1 hi).1;omega
     obtain⟨t',b,e,k1,k2,k3⟩:=h7 i fs[i] (b1L bz);rw[hi] at k1;simp only[b0J] at k1;subst k1;obtain⟨i',_,jw,cj,_⟩:=(hE.info k2).ex;simp[bz,k3,Program.cellsOf,jw,cj]
    obtain⟨l',h8,h9⟩:=xH (c:=c) (G:=G) (lk:=lk) (w:=w) Tr iP (aN.yX cG _) (gM h4);have hb:c.P.built T ((parts.map λ (i,x)=>(i,a.eval x)).toList)=some l'.toArray:=by
     unfold Program.built;rw[h1,h5];simp only[h3,O7];rw[<-h8];congr 1;simp
    refine cg hI (x := .agg l'.toArray) ?_ ⟨l',rfl,h9⟩;simp[execOp,bl,run_build w T _ _ hb]
   .cases hq
  .cases hq
 case h_7 T len parts bl =>
  split at hq
  .rename_i d τ b e hd hT;split at hq
   .rename_i hlen;split at hq
    .rename_i xs kq;simp only[b0U] at hlen;have MH:=b0L hlen.1;have hl2:=b1N hlen.2;subst MH;obtain⟨h1,⟨b',e',h2⟩,i,z,h3,h4,h5,h6,h7⟩:=hE.slice hT;have CO:=τ.size_pos;have IQ:τ.size<=100:=Ty.size_le τ;have a8D:parts.size * τ.size<=16777216:=b2c (Nat.mul_le_mul hl2 IQ) (by decide);obtain⟨r,h8,h9⟩:=Fi (c:=c) (G:=G) (lk:=lk) (w:=w) (τ:=τ) (place:=λ i=>some (i * τ.size,τ.size)) (λ _=>rfl) (l:=((Array.range (parts.size * τ.size)).map (λ j=>((if parts.size * τ.size=0 then #[] else z.cells:Array Value)[j % (if parts.size * τ.size=0 then #[] else z.cells:Array Value).size]!))).toList) kq (aN.yX cG _) (by simp);have rE:=AR kq;simp only[b1F,b1K] at rE;have cj:∀ d∈xs.map τ.aK,d.size=τ.size:=by
      intro d hd;obtain⟨y,_,rfl⟩:=b0P.1 hd;exact Ty.cz τ y
     have hrl:=dj.length _ h9 cj;simp only[b1F,rE] at hrl;simp only[b3V,b2T,b1v,b1M] at h8;have cE:(execOp a.eval o).run c.P w = .ok (.value (.slice (some ⟨w.heap.size,0,none⟩) parts.size parts.size)) (w.alloc (.cells r.toArray e)):=by
      have e2:(parts.map λ (i,x)=>(i,a.eval x)).toList=parts.toList.map λ p=>(p.1,a.eval p.2):=by simp
      have iF:¬ (parts.size * τ.size>2 ^ 24):=by omega
      simp only[execOp,bl,Instr.buildSlice,b1j,b1A h1,b1c,hE.sizeOf h2,b0N iF,b1k];by_cases h0:parts.size * τ.size=0
      .simp only[h0,b2G,b1j,b1k,b1c,e2] at h8 ⊢;rw[h8];simp[newRow]
      .simp only[h0,b3H,b1j,zeroValue,typeInfo,run_program,b1c,h3,h6,b1k,e2] at h8 ⊢;rw[h8];simp[newRow]
     have ho:(w.alloc (.cells r.toArray e)).ownsRow 0 e τ.size (.slice (some ⟨w.heap.size,0,none⟩) parts.size parts.size) xs.length r:=by
      rw[rE];have:=World.ownsRow_lit (base:=0) (e:=e) (size:=τ.size) w r.toArray parts.size (Nat.zero_le _) (by simp only[maxLen];omega) (by simpa using hrl);simpa using this
     have fv:=dj.aM (λ _ h=>h) (λ b hb=>hI.Uf (fg w (.cells r.toArray e)) b (.inl hb)) _ h9;have gT:∀ b,dw (.slice (some ⟨w.heap.size,0,none⟩) parts.size parts.size)=some b->w.heap.size<=b/\b<(w.alloc (.cells r.toArray e)).heap.size:=by
      intro b hb;simp only[dw,b0J] at hb;subst hb;simp
     split at hq
     .simp only[b0J,b0M] at hq;obtain⟨rfl,rfl,rfl⟩:=hq;exact ZJ hI cE (fg w _) ho fv (by omega) gT
     .simp only[b0J,b0M] at hq;obtain⟨rfl,rfl,rfl⟩:=hq;exact td hI cE (hI.alloc _) ⟨d,hd,rfl⟩ ⟨r,ho,fv,by omega⟩ gT
    .cases hq
   .cases hq
  .cases hq
 case h_8 T ad bl =>
  split at hq
  .rename_i τ r hT;split at hq
   .rename_i u hu;simp only[b0J,b0M] at hq;obtain⟨rfl,rfl,rfl⟩:=hq;obtain⟨b,o',cs,h1,h2,h3,h4⟩:=oo hI.aJ bW hu (cG ad);refine cg hI ?_ h4;simp only[execOp,bl,h1,b1j,gY hE hT h2 h3,b1c,b1k]
   .cases hq
  .cases hq
 case h_9 x bl =>
  have key:∀ u,ev x=u->(∃ b o,a.eval x = .pointer (some ⟨b,o,none⟩))->vc = .none->v=u->ob=none->o.wp c.P a w (vI c G sl n lk o.dst a w v ob) Q:=by
   rintro u hu ⟨b,o',hx⟩ _ rfl rfl;refine cg hI (x:=a.eval x) ?_ (hu ▸ cG x);simp only[execOp,bl,hx,b1k]
  have hx:=cG x;split at hq
  .rename_i u hu;simp only[b0J,b0M] at hq;rw[hu] at hx;obtain⟨b,o',cs,h1,_⟩:=hx;exact key _ hu ⟨b,o',h1⟩ hq.1.symm hq.2.1.symm hq.2.2.symm
  .rename_i id off hu;simp only[b0J,b0M] at hq;rw[hu] at hx;obtain⟨b,_,h1,_⟩:=hx;exact key _ hu ⟨b,off,h1⟩ hq.1.symm hq.2.1.symm hq.2.2.symm
  .rename_i id i off hu;simp only[b0J,b0M] at hq;rw[hu] at hx;obtain⟨b,_,_,_,_,_,_,_,_,h1⟩:=hx;exact key _ hu ⟨b,_,h1⟩ hq.1.symm hq.2.1.symm hq.2.2.symm
  .cases hq
 case h_10 T x i bl =>
  split at hq
  .rename_i s r hT;split at hq
   .cases hq
   .rename_i ha;split at hq
    .rename_i u hu;simp only[b0J,b0M] at hq;obtain⟨rfl,rfl,rfl⟩:=hq;obtain⟨b,o',h1,bz,h2⟩:=pT hu (cG x);refine cg hI (x := .pointer (some ⟨b,o'+s.dN i,none⟩)) ?_ h2;simp only[execOp,bl,h1,b1j,Ax hE hT ha bz,b1c,b1k]
    .cases hq
  .cases hq
 case h_11 T x i bl =>
  split at hq
  .rename_i s r hT;split at hq
   .cases hq
   .rename_i ha;split at hq
    .rename_i u hu;simp only[b0J,b0M] at hq;obtain⟨rfl,rfl,rfl⟩:=hq;obtain⟨cs,τ,h1,eF,h5,h3⟩:=Is hu (cG x);refine cg hI (x:=yO τ ((cs.drop (s.dN i)).take τ.size)) ?_ h3;simp only[execOp,bl,h1,b1j,XU hE hT ha eF h5,b1c,b1k]
    .cases hq
  .cases hq
 case h_12 T x ix bl =>
  split at hq
  .rename_i τ r hT;split at hq
   .rename_i k i hi;have gJ:=cG ix;rw[hi] at gJ;obtain⟨gJ,_⟩:=gJ;simp only[b0O,b1i] at gJ;have hx:=cG x;split at hq
    .rename_i u hu;rw[hu] at hx;split at hq
     .rename_i xs kq;have e:=TV.aT kq;subst e;simp only[b0J,b0M] at hq;obtain⟨rfl,rfl,rfl⟩:=hq;obtain⟨h0,h1⟩:=dY;obtain⟨ad,cap,h2,h3,h4,h5⟩:=iX hx;rcases h5 with h5|⟨b,o',h5,h6,h7⟩
      .subst h5;simp only[b1f] at h1;omega
      .subst h5;have bz:i.toNat<xs.length:=by omega
       obtain⟨cs,m1,m2,m3⟩:=df.at_ (n:=τ.size) _ b o' h7 (by
        intro d hd;obtain⟨y,_,rfl⟩:=b0P.1 hd;exact Ty.cz τ y) i.toNat (τ.aK (xs.getD i.toNat τ.zero)) (by simp[List.getD,bz])
       refine cg hI (x := .pointer (some ⟨b,o'+i.toNat * τ.size,none⟩)) ?_ ⟨b,_,cs,rfl, .inl h6,m3,m2⟩;simp only[execOp,bl,h2,gJ,b1j,oz hE hT h0 h1,b1c,b1k]
     .cases hq
    .rename_i id hu;rw[hu] at hx;split at hq
     .rename_i e' aW xs hl;split at hq
      .rename_i eF;have eF:=b1n eF;subst eF;simp only[b0J,b0M] at hq;obtain⟨rfl,rfl,rfl⟩:=hq;obtain⟨h0,h1⟩:=dY;obtain⟨h2,_,_⟩:=hx;have mW:=bW _ _ hl;obtain⟨l,m1,_,_⟩:=hI.aJ _ _ mW;have bz:i.toNat<xs.length:=by omega
       rcases m1.2 with ⟨_,hn⟩|⟨g,cap,cur,hv,_⟩
       .omega
       .refine cg hI (x := .pointer (some ⟨g,0+i.toNat * aW.size,none⟩)) ?_ ⟨g,_,cap,e',aW,xs,hv,mW,bz,by simp⟩;simp only[execOp,bl,h2,hv,gJ,b1j,oz hE hT h0 h1,b1c,b1k]
      .cases hq
     .cases hq
    .cases hq
   .cases hq
  .rename_i n r hT;split at hq
   .rename_i k i ha hi;have gJ:=cG ix;rw[hi] at gJ;obtain⟨gJ,_⟩:=gJ;simp only[b0O,b1i] at gJ;split at hq
    .rename_i u hu;simp only[b0J,b0M] at hq;obtain⟨rfl,rfl,rfl⟩:=hq;obtain⟨b,o',h1,bz,h2⟩:=pT hu (cG x);refine cg hI (x := .pointer (some ⟨b,o'+n.dN i,none⟩)) ?_ h2;simp only[execOp,bl,h1,gJ,b1j,Qc hE hT ha bz,b1c,b1k]
    .cases hq
   .cases hq
  .cases hq
 case h_13 T x ix bl =>
  split at hq
  .rename_i r hT;split at hq
   .rename_i k i hi;have gJ:=cG ix;rw[hi] at gJ;obtain⟨gJ,_⟩:=gJ;simp only[b0O,b1i] at gJ;have hx:=cG x;split at hq
    .rename_i xs hu;rw[hu] at hx;simp only[Option.some.injEq,Prod.mk.injEq] at hq;obtain⟨rfl,rfl,rfl⟩:=hq;obtain⟨s,h1,h2,h3⟩:=hx;simp only[List.cons.injEq,and_true] at h1;subst h2;have cj:s.data.toList.length=s.size:=Array.length_toList;have dY:aI i s.data.toList.length:=dY;unfold aI at dY;rw[cj] at dY;have bz:Int.toNat i<s.size:=by omega
     have he:s.data.toList.getD (Int.toNat i) 0=s[Int.toNat i]'bz:=by
      have h5:Int.toNat i<s.data.size:=bz;rw[List.getD_eq_getElem?_getD,List.getElem?_eq_getElem (by simpa using h5)];rfl
     have hr:(execOp a.eval o).run c.P w = .ok (.value (.int .u8 (s[Int.toNat i]'bz).toNat)) w:=by
      simp only[execOp,bl,h1,gJ,b1j,run_index_string w T s k i (hE.str hT)];rw[dif_pos dY];rfl
     refine cg hI hr ⟨by rw[he],?_⟩;have:=(s.data.toList.getD (Int.toNat i) 0).toNat_lt;exact⟨b5h _,by simp only[IntKind.max,IntKind.signed,IntKind.bits,b1z,b3H];omega⟩
    .cases hq
   .cases hq
  .rename_i n r hT;split at hq
   .rename_i k i ha hi;have gJ:=cG ix;rw[hi] at gJ;obtain⟨gJ,_⟩:=gJ;simp only[b0O,b1i] at gJ;split at hq
    .rename_i u hu;simp only[b0J,b0M] at hq;obtain⟨rfl,rfl,rfl⟩:=hq;obtain⟨cs,τ,h1,eF,h5,h3⟩:=Is hu (cG x);refine cg hI (x:=yO τ ((cs.drop (n.dN i)).take τ.size)) ?_ h3;simp only[execOp,bl,h1,gJ,b1j,a2S hE hT ha eF h5,b1c,b1k]
    .cases hq
   .cases hq
  .cases hq
 case h_14 op T x y yt bl =>
  split at hq
  .rename_i p u hu;simp only[b0J,b0M] at hq;obtain⟨rfl,rfl,rfl⟩:=hq;obtain⟨z,h1,h2⟩:=VC hE x y hu dY (cG x) (cG y);refine cg hI ?_ h2;simp only[execOp,bl];rw[b1j,h1];rfl
  .split at hq
   .rename_i p u hu;simp only[b0J,b0M] at hq;obtain⟨rfl,rfl,rfl⟩:=hq;obtain⟨z,h1,h2⟩:=WG hE x y hu dY (cG x) (cG y);refine cg hI ?_ h2;simp only[execOp,bl];rw[b1j,h1];rfl
   .cases hq
 case h_15 op xt x bl =>
  split at hq
  .rename_i b hb;simp only[b0J,b0M] at hq;obtain⟨rfl,rfl,rfl⟩:=hq;have hx:=cG x;rw[hb] at hx;have hx:[a.eval x]=[.bool b]:=hx;simp only[b0O,b1i] at hx;exact cg hI (x := .bool !b) (by simp[execOp,bl,hx,Op.unary]) rfl
  .rename_i k i hb;simp only[b0J,b0M] at hq;obtain⟨rfl,rfl,rfl⟩:=hq;have hx:=cG x;rw[hb] at hx;obtain⟨hx,_⟩:=hx;simp only[b0O,b1i] at hx;have hr:=dU dY;have h0:(0:Int) - i = -i:=Int.zero_sub _;exact cg hI (x := .int k (-i)) (by simp[execOp,bl,hx,Op.unary,Op.intArith,h0,qF hr]) ⟨rfl,hr⟩
  .cases hq
 case h_16 src dst x bl =>
  split at hq
  .rename_i k1 r1 k2 r2 hs hd;split at hq
   .rename_i k3 i uu;simp only[b0J,b0M] at hq;obtain⟨rfl,rfl,rfl⟩:=hq;have hx:=cG x;rw[uu] at hx;obtain⟨hx,_⟩:=hx;simp only[b0O,b1i] at hx;have hr:=dU dY;refine cg hI (x := .int k2 i) ?_ ⟨rfl,hr⟩;simp[execOp,bl,hx,convert,b1A (hE.int hs),b1A (hE.int hd),Conv.intToInt,qF hr]
   .cases hq
  .cases hq
 case h_18 t i bl =>
  split at hq
  .rename_i vs ht;split at hq
   .rename_i u hu;simp only[b0J,b0M] at hq;obtain⟨rfl,rfl,rfl⟩:=hq;have hx:=cG t;rw[ht] at hx;obtain⟨l,h1,h2⟩:=hx;obtain⟨z,h3,h4⟩:=h2.at_ i u hu;refine cg hI (x:=z) ?_ ?_
    .simp[execOp,bl,Instr.extract,h1,h3]
    .cases u<;>first|exact h4|exact h4.elim|trivial
   .cases hq
  .cases hq
 case h_19 T l cc bl =>
  split at hq
  .rename_i d τ b e hd hT;split at hq
   .rename_i m m' hm hm';simp only[b0J,b0M] at hq;obtain⟨rfl,rfl,rfl⟩:=hq;have hl:=cG l;have hc:=cG cc;rw[hm] at hl;rw[hm'] at hc;obtain⟨hl,_⟩:=hl;obtain⟨hc,_⟩:=hc;simp only[b0O,b1i] at hl hc;obtain⟨cap,cs,h1,h2⟩:=a0f (c:=c) (G:=G) (lk:=lk) hE hT dY w (λ w' hk b hb=>hI.Uf hk b (.inl hb));refine td hI ?_ (hI.alloc _) ⟨d,hd,rfl⟩ h2 ?_
    .simp only[execOp,bl,hl,hc,b1j,h1,b1c,b1k]
    .intro b hb;simp only[dw,b0J] at hb;subst hb;simp
   .cases hq
  .cases hq
 case h_17 T x lo hi mx bl =>
  split at hq
  .rename_i τ r hT;have hx:=cG x;split at hq
   .rename_i u hu;rw[hu] at hx;split at hq
    .rename_i xs kq;have e:=TV.aT kq;subst e;split at hq
     .rename_i l h hl hh;simp only[b0J,b0M] at hq;obtain⟨rfl,rfl,rfl⟩:=hq;obtain⟨ad,cap,h2,h3,h4,h5⟩:=iX hx;obtain⟨k1,⟨b',e',k2⟩,_⟩:=hE.slice hT;have hb:=LK cG true hl hh dY h3 c.P w;obtain⟨v0,v1,v2⟩:=dY;have cE:(execOp a.eval o).run c.P w = .ok (.value (.slice (if cap=l.toNat then ad else ad.map (·.add (l.toNat * τ.size))) (h.toNat - l.toNat) (cap - l.toNat))) w:=by
       simp only[execOp,bl,h2,Instr.sliceAt,b1j,b1A k1,b1c,Instr.slice,b3X,hb,hE.sizeOf k2,b1k]
      refine cg hI cE ?_;have hlen:((xs.take h.toNat).drop l.toNat).length=h.toNat - l.toNat:=by
       rw[b1Z,b1T];omega
      refine a0n hlen (by omega) ?_ (by omega) ?_
      .have:=hx;obtain⟨ad',Om,m1,m2,m3,_⟩:=this;rw[h2] at m1;simp only[b0O,b2z,b1i] at m1;obtain⟨_,_,rfl⟩:=m1;omega
      .rcases b1w l.toNat h.toNat with bz|Tn
       .right;rcases h5 with h5|⟨b,o',rfl,h6,h7⟩
        .subst h5;simp only[b1f] at v2;omega
        .refine⟨b,o'+l.toNat * τ.size,?_,h6,?_⟩
         .rw[b0N (by omega)];simp[b3f]
         .rw[List.map_drop,List.map_take];refine df.a1b _ _ _ _ (df.a3o _ _ _ _ h7) ?_;intro d hd;obtain⟨y,_,rfl⟩:=b0P.1 (List.mem_of_mem_take hd);exact Ty.cz τ y
       .left;exact b1W (by omega)
     .cases hq
    .cases hq
   .cases hq
  .rename_i r hT;have hx:=cG x;split at hq
   .rename_i xs hu;rw[hu] at hx;split at hq
    .rename_i l h hl hh;simp only[b0J,b0M] at hq;obtain⟨rfl,rfl,rfl⟩:=hq;obtain⟨s,h1,h2,h3⟩:=hx;simp only[b0O,b1i] at h1;subst h2;have cj:s.data.toList.length=s.size:=b1K;rw[cj] at dY hh;have hb:=LK cG false hl hh dY (b1d _) c.P w;obtain⟨v0,v1,v2⟩:=dY;refine cg hI (x := .string (s.extract l.toNat h.toNat)) ?_ ⟨_,rfl,?_,?_⟩
     .have iF:¬ ((none:Option Value).isSome=true):=by simp
      simp only[execOp,bl,h1,Instr.sliceAt,b1j,b1A (hE.str hT),b1c,Instr.slice,b3X,b0N iF,hb,b1k]
     .rw[Lib.extract_data,List.drop_take]
     .have:(s.extract l.toNat h.toNat).size<=s.size:=by
       rw[ByteArray.size_extract];omega
      omega
    .cases hq
   .cases hq
  .cases hq
 case h_20 cl bl =>
  have dP:=aN.jl cG cl.args.toList;split at hq
  .rename_i fN;split at hq
   .rename_i T v1 OV xy;rw[xy] at dP;match kq:cl.args.toList.map a.eval,dP with
    | [x],dP =>
     have hx:=dP.1;have II:cl.argTypes = #[T]:=by rw[<-b1M (xs:=cl.argTypes),OV]
     have CS:cl.args.map a.eval = #[x]:=by rw[<-b1M (xs:=cl.args.map a.eval),b2J,kq]
     have O2:(execOp a.eval o)=(do let d <-resolve a.eval cl o.type;invoke d.target d.args):=by simp[execOp,bl]
     have IM:(execOp a.eval o).run c.P w=((Builtin.len_ #[T] o.type #[x]).run c.P w).andThen λ v w => .ok (.value v) w:=by
      rw[O2];simp[resolve,fN,invoke,builtin,II,CS]
     split at hq
     .rename_i t r hT;obtain⟨k1,_,_⟩:=hE.slice hT;have QS:c.P.elem T=r.2:=by simp[Program.elem,k1]
      have cE:∀ ad len cap,x = .slice ad len cap->(execOp a.eval o).run c.P w = .ok (.value (.int .i64 len)) w:=by
       intro ad len cap hxx;rw[IM,hxx,run_len_slice w T o.type ad len cap (by rw[QS];exact k1)];rfl
      have fu:∀ m:Nat,m<=140737488355328->IntKind.i64.min<=(m:Int)/\(m:Int)<=IntKind.i64.max:=λ m hm=>dU (k := .i64) ⟨by omega,by omega⟩;split at hq
      .simp only[b0J,b0M] at hq;obtain⟨rfl,rfl,rfl⟩:=hq;exact cg hI (cE _ _ _ hx) ⟨rfl,fu 0 (by omega)⟩
      .rename_i t' xs;simp only[b0J,b0M] at hq;obtain⟨rfl,rfl,rfl⟩:=hq;obtain⟨ad,cap,h2,h3,h4,h5⟩:=iX hx;exact cg hI (cE _ _ _ h2) ⟨rfl,fu _ h4⟩
      .rename_i id;split at hq
       .rename_i e' aW xs hl;simp only[b0J,b0M] at hq;obtain⟨rfl,rfl,rfl⟩:=hq;obtain⟨h2,_,_⟩:=hx;have mW:=bW _ _ hl;obtain⟨ad,cap,h3,_,h4,_⟩:=iX (t:=aW) (Y8 (hI.aJ _ _ mW) mW);exact cg hI (cE _ _ _ (h2.trans h3)) ⟨rfl,fu _ h4⟩
       .cases hq
      .cases hq
     .rename_i r hT;split at hq
      .rename_i xs;simp only[b0J,b0M] at hq;obtain⟨rfl,rfl,rfl⟩:=hq;obtain⟨s,h1,h2,h3⟩:=hx;simp only[b0O,b1i] at h1;subst h2;have cj:s.data.toList.length=s.size:=b1K;have fu:cD .i64 (s.size:Int):=⟨by omega,by omega⟩;refine cg hI (x := .int .i64 s.size) ?_ ⟨by rw[cj],by rw[cj];exact dU fu⟩;rw[IM,h1,run_len_string w T o.type s (hE.str hT)];rfl
      .cases hq
     .rename_i hT;split at hq
      .rename_i id a5M hm _;split at hq
       .rename_i m hl;simp only[b0J,b0M] at hq;obtain⟨rfl,rfl,rfl⟩:=hq;obtain⟨b,es,clock,k1,k2,k3⟩:=hI.aJ _ _ (bW _ _ hl);obtain⟨kT,eT,u1,_⟩:=hE.map (κ:=a5M.1) (ε:=a5M.2) hm w;have QS:c.P.underlying T=some (.map (c.P.mapKeyOf T) (c.P.mapElemOf T)):=by simp[Program.mapKeyOf,Program.mapElemOf,u1]
        have hsm:=k3.small;have fu:cD .i64 (m.n:Int):=⟨by omega,by omega⟩;refine cg hI (x := .int .i64 m.n) ?_ ⟨rfl,dU fu⟩;rw[IM,hx.1,k1,run_len_map w T o.type b es clock QS k2,k3.len];rfl
       .cases hq
      .cases hq
     .cases hq
   .cases hq
  .rename_i fN;split at hq
   .rename_i d T T' hd OV;split at hq
    .rename_i τ b e OU hT;split at hq
     .rename_i y xy;split at hq
      .rename_i ys EP;simp only[b0J,b0M] at hq;obtain⟨rfl,rfl,rfl⟩:=hq;have OU:=b0L OU;subst OU;rw[xy] at dP;match kq:cl.args.toList.map a.eval,dP with
       | [x,z],dP =>
        obtain⟨hx,hz,_⟩:=dP;have hx:x = .slice none 0 0:=hx;subst hx;have II:cl.argTypes = #[T,T]:=by rw[<-b1M (xs:=cl.argTypes),OV]
        have CS:cl.args.map a.eval = #[.slice none 0 0,z]:=by rw[<-b1M (xs:=cl.args.map a.eval),b2J,kq]
        have IM:(execOp a.eval o).run c.P w=((Builtin.append_ #[T,T] o.type #[.slice none 0 0,z]).run c.P w).andThen λ v w => .ok (.value v) w:=by
         simp[execOp,bl,resolve,fN,invoke,builtin,II,CS]
        have hzc:C1 c G lk w y z:=by
         refine hz.Se ?_;cases y with
         | aO u =>
          have e:=TV.aT EP;subst e;rfl
         | nil=>rfl
         | row i=>rfl
         | aE i=>rfl
         | _=>cases EP
        have fv:=Yi hI.aJ (Du bW) VD EP hzc;obtain⟨v',w',news,m1,m2,m3,m4,m5,m6⟩:=LA (w:=w) (base:=w.heap.size) hE hT (World.ownsRow_nil w _ e τ.size) (Nat.le_refl _) fv (n:=0) (by rw[Nat.zero_add];exact dY) o.type;have hk:bK (λ _=>False) w w':=⟨m3.os,m3.tape,m3.output,m3.size,λ b hb _=>m3.block b hb (by simp[Value.ownBlock])⟩;simp only[Nat.zero_add,List.nil_append] at m2;refine td hI (x:=v') (w':=w') ?_ (hI.grow (S':=G.S) hk (λ _ _=>Iff.rfl) (λ b hb=>Nat.lt_of_lt_of_le (hI.dE b hb) hk.size)) ⟨d,hd,rfl⟩ ⟨news,?_,?_,by simpa using m6⟩ ?_
        .rw[IM,m1];rfl
        .exact⟨m2.1,m2.2.imp id λ ⟨g,cap,cur,q1,q2,q3⟩=>⟨g,cap,cur,q1,b1G _,q3⟩⟩
        .exact dj.aM (λ _ h=>h) (λ b hb=>hI.Uf hk b (.inl hb)) _ m5
        .intro b hb;have MI:=(pK (w:=w') (v:=v') (e:=e) ⟨m2.1,m2.2.imp id λ ⟨g,cap,cur,q1,q2,q3⟩=>⟨g,cap,cur,q1,b1G _,q3⟩⟩);have cv:v'.ownBlock=some b:=MI.trans hb;exact m2.lt b cv
      .cases hq
     .cases hq
    .cases hq
   .cases hq
  .rename_i fN;split at hq
   .rename_i k m k' n xy;split at hq
    .rename_i hk;have hk:=b1n hk;subst hk;simp only[b0J,b0M] at hq;obtain⟨rfl,rfl,rfl⟩:=hq;rw[xy] at dP;match kq:cl.args.toList.map a.eval,dP with
     | [x,z],dP =>
      obtain⟨⟨hx,hx2⟩,⟨hz,MJ⟩,_⟩:=dP;simp only[b0O,b1i] at hx hz;subst hx hz;have CS:cl.args.map a.eval = #[.int k' m, .int k' n]:=by rw[<-b1M (xs:=cl.args.map a.eval),b2J,kq]
      refine cg hI (x := .int k' (max m n)) ?_ ⟨rfl,?_⟩
      .have hm:=a3Z m n;simp[execOp,bl,resolve,fN,invoke,builtin,CS,Builtin.max_,Builtin.max2];exact hm
      .exact a4a _ _ _ _ hx2 MJ
    .cases hq
   .cases hq
  .rename_i f fN;exact LM hE hI bW hq dY dP (λ px=>gA bl fN rfl px)
  .rename_i t fN;split at hq
   .rename_i f hf;have hx:=cG (.tmp t);rw[hf] at hx;exact LM hE hI bW hq dY dP (λ px=>gA bl fN hx px)
   .rename_i f cs hf;have hx:=cG (.tmp t);rw[hf] at hx;exact Ci hE hI bW hq dY dP bl fN hx
   .rename_i v hf;have hx:=cG (.tmp t);rw[hf] at hx;exact Ci hE hI bW hq dY dP bl fN hx
   .cases hq
  .cases hq
 case h_21 T bl =>
  split at hq
  .rename_i d κ ε hd hT;simp only[b0J,b0M] at hq;obtain⟨rfl,rfl,rfl⟩:=hq;obtain⟨kT,eT,u1,u2,u3,u4,_⟩:=hE.map hT w;refine td hI (x := .map (some w.heap.size)) (w':=w.alloc (.map #[] 0)) ?_ (hI.alloc _) ⟨d,hd,rfl⟩ ⟨_,_,_,rfl,(b5j w _).1,vJ.empty u3 u4⟩ ?_
   .simp[execOp,bl,Instr.makeMap]
   .intro b hb;simp only[dw,b0J] at hb;subst hb;simp
  .cases hq
 case h_22 T x ix ok bl =>
  split at hq
  .rename_i κ ε hT;split at hq
   .rename_i id k hx gJ;split at hq
    .rename_i m hl;split at hq
     .rename_i f n hm;have e1:=MV.aT hm;subst e1;obtain⟨kT,eT,u1,u2,u3,u4,z,hz,hzr⟩:=hE.map hT w;have uu:=cG x;rw[hx] at uu;obtain⟨b,es,clock,k1,k2,k3⟩:=hI.aJ _ _ (bW _ _ hl);have hkr:zp κ k (a.eval ix):=zp.of u3 (xQ gJ (cG ix));obtain⟨y,y1,y2⟩:=k3.ai (P:=c.P) u1 u2 k2 hz hzr hkr ok;have cE:(execOp a.eval o).run c.P w = .ok (.value (if ok then .tuple #[y, .bool (f k).isSome] else y)) w:=by
       have hxx:a.eval x = .map (some b):=uu.1.trans k1;have:(execOp a.eval o)=(do let r <-Instr.lookup T (a.eval x) (a.eval ix) ok;pure (.value r)):=by simp[execOp,bl]
       rw[this,hxx];simp[y2,Result.andThen]
      have hyv:dI w G.S ⟨ε,(f k).getD ε.zero⟩ y:=by
       have:=y1 w G.S;cases ε with
       | int q=>exact this
       | bool=>exact this
       | str=>exact this
       | _=>cases u4
      cases ok with
      | true =>
       simp only[b0J,b0M] at hq;obtain⟨rfl,rfl,rfl⟩:=hq;exact cg hI cE ⟨[y, .bool (f k).isSome],rfl,hyv,rfl,ag⟩
      | false =>
       simp only[b0J,b0M] at hq;obtain⟨rfl,rfl,rfl⟩:=hq;exact cg hI cE hyv
     .cases hq
    .cases hq
   .cases hq
  .cases hq
 case h_23 fn first captured bl =>
  split at hq
  .rename_i f a3M CI;have iP:=aN.jl cG captured.toList;have cE:(execOp a.eval o).run c.P w = .ok (.value (.func (.func f) #[] (captured.toList.map a.eval).toArray)) w:=by
    have hf:first = #[]:=by rw[<-b1M (xs:=first),a3M]
    simp[execOp,bl,Instr.makeFunc,hf];apply b4u;simp
   split at hq
   .rename_i iU;simp only[b0J,b0M] at hq;obtain⟨rfl,rfl,rfl⟩:=hq;rw[iU] at iP;match hl:captured.toList.map a.eval,iP with
    | [],_ =>
     rw[hl] at cE;exact cg hI cE rfl
   .simp only[b0J,b0M] at hq;obtain⟨rfl,rfl,rfl⟩:=hq;exact cg hI cE ⟨_,rfl,iP.imp λ u y hu hy=>hy.We (b1u.1 CI u hu)⟩
  .cases hq
 case h_24=>cases hq
end
end Go.Proofs.YtofnjfpeimhifaaGreatDoor

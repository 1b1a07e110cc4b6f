/- VmTypes, VmCore, VmRead, VmOwn, VmMap, VmInv, VmEnv, VmVals, VmRuns, VmMake, VmOps. -/
import Derived.KernelRfl
import GoSem.Claim
import Derived.Orders
import Derived.Laws.AppendOwn
import Derived.Laws.OwnMore
import Derived.Below
import Derived.MapKept
import Derived.Maps.Keyed
import Derived.WideKeyPair
import Derived.Calls
import Derived.Laws.Cells
import Derived.Laws.Slices
import Derived.Laws.Strings
import Derived.Maps.AppendAt
import Derived.Laws.StructEq
import Derived.IntWalk
import Derived.Laws.Small
import Derived.Laws.CopyRow
import Derived.Lib.Strings
set_option linter.all false
namespace Go.Proofs.YtofnjfpeimhifaaGreatDoor
def b0e:=@Option.bind_eq_some_iff
def a8V:=@Option.some.injEq
def a9x:=@List.map_cons
def b0y:=@List.map_nil
def a9a:=@List.cons.injEq
def a9q:=@and_true
def b1i:=@Go.World.cell?_of_block
def a9Y:=@Nat.add_mul
def a9i:=@List.length_append
def a9f:=@List.length_cons
def b0n:=@List.getElem?_append_left
def a9p:=@List.getElem?_eq_some_iff
def a9O:=@Nat.lt_or_ge
def b0Q:=@List.getElem?_append_right
def b1r:=@Nat.add_sub_cancel_left
def a9e:=@Bool.and_eq_true
def b2h:=@List.drop_drop
def b1l:=@List.drop_left
def b2y:=@List.take_append
def a9A:=@List.take_of_length_le
def b1W:=@Nat.zero_mul
def b2i:=@List.drop_zero
def b0Z:=@List.take_left
def b1a:=@List.take_zero
def a9L:=@List.nil_append
def b0t:=@Nat.zero_add
def b0X:=@Iff.rfl
def b2K:=@Go.Value.agg.injEq
def b0z:=@true_and
def a9F:=@Nat.zero_le
def a9C:=@List.mem_of_getElem?
def a9I:=@Go.run_underlying
def b1C:=@Go.MapKept.run_getObj_map
def b1N:=@List.getElem?_cons_zero
def b0E:=@List.pairwise_cons
def b2q:=@Array.toList_push
def a9w:=@List.mem_singleton
def a8X:=@List.mem_append
def b2r:=@List.ext_getElem?
def a9l:=@if_pos
def b0K:=@List.getElem_of_mem
def b0G:=@List.getElem_mem
def a9n:=@Nat.le_refl
def b0b:=@Nat.le_trans
def a9g:=@Nat.lt_of_lt_of_le
def a9k:=@List.mem_cons
def a9G:=@Array.getD_eq_getD_getElem?
def b2j:=@Array.getElem?_setIfInBounds
def a9D:=@Option.map_eq_some_iff
def a9c:=@if_neg
def b0Y:=@if_true
def a8W:=@Nat.eq_of_beq_eq_true
def a9y:=@of_decide_eq_true
def a9H:=@List.all_eq_true
def b2d:=@List.replicate_succ
def b3d:=@List.sum_cons
def b1o:=@Go.Addr.add_lit
def a9r:=@Go.Sem.run_bind
def a9u:=@Go.Sem.run_pure
def a9m:=@Go.Result.andThen_ok
def b0P:=@Nat.add_zero
def a9d:=@decide_eq_true_eq
def b0d:=@List.eq_nil_of_length_eq_zero
def a9j:=@List.getElem?_eq_getElem
def b0g:=@Option.some.inj
def b1j:=@List.drop_eq_getElem_cons
def a9V:=@Nat.le_of_ble_eq_true
def a9W:=@List.length_take
def b0h:=@List.length_drop
def b0i:=@List.getElem?_take
def b1e:=@List.getElem?_drop
def b2o:=@Nat.add_assoc
def a9b:=@List.mem_map
def b1q:=@Go.Value.pointer.injEq
def b0M:=@Go.Addr.mk.injEq
def b1V:=@eq_of_heq
def b1O:=@Int.eq_ofNat_of_zero_le
def a9Q:=@Int.toNat_natCast
def a8Y:=@Prod.mk.injEq
def b3f:=@Go.ByteArray.toList_eq
def b2s:=@Go.eqGuard_at_string
def a9P:=@Array.length_toList
def a9S:=@Array.getElem?_eq_getElem
def b2L:=@Go.Result.ok.injEq
def b2v:=@Array.ext'
def a9R:=@Bool.false_eq_true
def b1M:=@if_false
def b2P:=@List.getElem?_toArray
def b2e:=@List.take_succ_cons
def b3m:=@Int.natCast_nonneg
def a9B:=@List.append_assoc
def a9v:=@List.length_nil
def b1T:=@List.take_length
def a9U:=@List.append_nil
def b2S:=@List.replicate_succ'
def a9N:=@Bool.not_true
def b1s:=@Bool.true_and
def a9t:=@Bool.not_eq_true'
def b1P:=@List.flatMap_cons
def b0u:=@List.mem_cons_of_mem
def a9M:=@List.length_map
def b0w:=@List.getElem?_map
def b1X:=@Option.map_none
def b1v:=@Option.map_some
def b3g:=@Int.toNat_of_nonneg
def b2Q:=@Go.run_sliceBound
def b0k:=@Go.heap_alloc_new
def b0H:=@Nat.mul_le_mul_right
def b3n:=@List.map_replicate
def b2T:=@Go.TypeDesc.array.injEq
def b1m:=@List.mapM_cons
def a9T:=@Array.toArray_toList
def b0J:=@Go.Value.slice.injEq
def b1Y:=@List.mem_of_mem_take
def b0S:=@Array.toList_map
def b3o:=@Go.MapKept.heap_alloc
def WI:List Nat:=[]
inductive D where
 | int (k:IntKind) (n:Int)
 | bool (b:Bool)
 | str (s:List UInt8)
 | slice (n:Nat) (xs:List D)
 | agg (xs:List D)
 | hole
 | ptr
def mvD{α:Type}(n:Nat)(f:α->D):Option (List α)->D
 | none => .hole
 | some l => .slice n (l.map f)
inductive aG where
 | arr2
 | sig
 | expr
 | oExpr
 | word
 | automaton
 | l00Src
 | l01Gen
 | reached
 deriving DecidableEq
inductive Ty where
 | int (k:IntKind)
 | bool
 | str
 | slice (t:Ty)
 | st (s:aG)
 | mv (t:Ty)
 | ptr
 deriving DecidableEq
structure nJ where
 a0:Int
 a1:Int
structure aF where
 aK:Int
 au:Int
structure J where
 ah:Int
 bl:Int
 ae:List (J)
structure mD where
 ah:Int
 bl:Int
 ae:Option (List (J))
structure tG where
 SC:List (Int)
 XS:List (Int)
structure aj where
 sig:aF
 accept:List (List (Bool))
 next:List (List (List (Int)))
structure jV where
 O:List (Int)
 pos:Int
 az:Int
structure jW where
 s:Unit
 g:aF
 left:Int
structure ia where
 pair:nJ
 frm:Int
 atom:Int
 act:Int
@[reducible] def aG.den:aG->Type
 | .arr2=>nJ
 | .sig=>aF
 | .expr=>J
 | .oExpr=>mD
 | .word=>tG
 | .automaton=>aj
 | .l00Src=>jV
 | .l01Gen=>jW
 | .reached=>ia
@[reducible] def Ty.den:Ty->Type
 | .int _=>Int
 | .bool=>Bool
 | .str=>List UInt8
 | .slice t=>List t.den
 | .st s=>s.den
 | .mv t=>Option (List t.den)
 | .ptr=>Unit
structure TV where
 τ:Ty
 x:τ.den
def TV.Z9(τ:Ty)(v:TV):Option τ.den:=if h:v.τ=τ then some (h ▸ v.x) else none
def TV.aQ{τ:Ty}{v:TV}{x:τ.den}(h:v.Z9 τ=some x):v=⟨τ,x⟩:=by
 unfold TV.Z9 at h;split at h
 .rename_i e;subst e;cases v;simp at h;subst h;rfl
 .cases h
@[simp] theorem TV.Wj(τ:Ty)(x:τ.den):TV.Z9 τ ⟨τ,x⟩=some x:=by simp[TV.Z9]
def aG.fields:(s:aG)->s.den->List TV
 | .arr2,x=>[⟨.int .i64,x.a0⟩,⟨.int .i64,x.a1⟩]
 | .sig,x=>[⟨.int .i64,x.aK⟩,⟨.int .i64,x.au⟩]
 | .expr,x=>[⟨.int .i64,x.ah⟩,⟨.int .i64,x.bl⟩,⟨.slice (.st .expr),x.ae⟩]
 | .oExpr,x=>[⟨.int .i64,x.ah⟩,⟨.int .i64,x.bl⟩,⟨.mv (.st .expr),x.ae⟩]
 | .word,x=>[⟨.slice (.int .i64),x.SC⟩,⟨.slice (.int .i64),x.XS⟩]
 | .automaton,x=>[⟨.st .sig,x.sig⟩,⟨.slice (.slice (.bool)),x.accept⟩,⟨.slice (.slice (.slice (.int .i64))),x.next⟩]
 | .l00Src,x=>[⟨.slice (.int .u8),x.O⟩,⟨.int .i64,x.pos⟩,⟨.int .u64,x.az⟩]
 | .l01Gen,x=>[⟨.ptr,x.s⟩,⟨.st .sig,x.g⟩,⟨.int .i64,x.left⟩]
 | .reached,x=>[⟨.st .arr2,x.pair⟩,⟨.int .i64,x.frm⟩,⟨.int .i64,x.atom⟩,⟨.int .i64,x.act⟩]
def aG.cells:(s:aG)->s.den->List TV
 | .arr2,x=>[⟨.int .i64,x.a0⟩,⟨.int .i64,x.a1⟩]
 | .sig,x=>[⟨.int .i64,x.aK⟩,⟨.int .i64,x.au⟩]
 | .expr,x=>[⟨.int .i64,x.ah⟩,⟨.int .i64,x.bl⟩,⟨.slice (.st .expr),x.ae⟩]
 | .oExpr,x=>[⟨.int .i64,x.ah⟩,⟨.int .i64,x.bl⟩,⟨.mv (.st .expr),x.ae⟩]
 | .word,x=>[⟨.slice (.int .i64),x.SC⟩,⟨.slice (.int .i64),x.XS⟩]
 | .automaton,x=>[⟨.int .i64,x.sig.aK⟩,⟨.int .i64,x.sig.au⟩,⟨.slice (.slice (.bool)),x.accept⟩,⟨.slice (.slice (.slice (.int .i64))),x.next⟩]
 | .l00Src,x=>[⟨.slice (.int .u8),x.O⟩,⟨.int .i64,x.pos⟩,⟨.int .u64,x.az⟩]
 | .l01Gen,x=>[⟨.ptr,x.s⟩,⟨.int .i64,x.g.aK⟩,⟨.int .i64,x.g.au⟩,⟨.int .i64,x.left⟩]
 | .reached,x=>[⟨.int .i64,x.pair.a0⟩,⟨.int .i64,x.pair.a1⟩,⟨.int .i64,x.frm⟩,⟨.int .i64,x.atom⟩,⟨.int .i64,x.act⟩]
def aG.size:aG->Nat
 | .arr2=>2
 | .sig=>2
 | .expr=>3
 | .oExpr=>3
 | .word=>2
 | .automaton=>4
 | .l00Src=>3
 | .l01Gen=>4
 | .reached=>5
def aG.arr:aG->Bool
 | .arr2=>true
 | _=>false
def aG.a0g(s:aG)(ha:s.arr=true){x y:s.den}(h:s.cells x=s.cells y):x=y:=by cases s<;>first|(cases ha;done)|(cases x;cases y;simpa [aG.cells] using h)
def aG.nr:aG->List Ty
 | .arr2=>[.int .i64, .int .i64]
 | .sig=>[.int .i64, .int .i64]
 | .expr=>[.int .i64, .int .i64, .slice (.st .expr)]
 | .oExpr=>[.int .i64, .int .i64, .mv (.st .expr)]
 | .word=>[.slice (.int .i64), .slice (.int .i64)]
 | .automaton=>[.int .i64, .int .i64, .slice (.slice (.bool)), .slice (.slice (.slice (.int .i64)))]
 | .l00Src=>[.slice (.int .u8), .int .i64, .int .u64]
 | .l01Gen=>[.ptr, .int .i64, .int .i64, .int .i64]
 | .reached=>[.int .i64, .int .i64, .int .i64, .int .i64, .int .i64]
def aG.dc:aG->List Ty
 | .arr2=>[.int .i64, .int .i64]
 | .sig=>[.int .i64, .int .i64]
 | .expr=>[.int .i64, .int .i64, .slice (.st .expr)]
 | .oExpr=>[.int .i64, .int .i64, .mv (.st .expr)]
 | .word=>[.slice (.int .i64), .slice (.int .i64)]
 | .automaton=>[.st .sig, .slice (.slice (.bool)), .slice (.slice (.slice (.int .i64)))]
 | .l00Src=>[.slice (.int .u8), .int .i64, .int .u64]
 | .l01Gen=>[.ptr, .st .sig, .int .i64]
 | .reached=>[.st .arr2, .int .i64, .int .i64, .int .i64]
def aG.e8:(s:aG)->List TV->Option s.den
 | .arr2,[a0,a1]=>(a0.Z9 (.int .i64)).bind λ b0=>(a1.Z9 (.int .i64)).bind λ b1=>some (nJ.mk b0 b1)
 | .sig,[a0,a1]=>(a0.Z9 (.int .i64)).bind λ b0=>(a1.Z9 (.int .i64)).bind λ b1=>some (aF.mk b0 b1)
 | .expr,[a0,a1,a2]=>(a0.Z9 (.int .i64)).bind λ b0=>(a1.Z9 (.int .i64)).bind λ b1=>(a2.Z9 (.slice (.st .expr))).bind λ b2=>some (J.mk b0 b1 b2)
 | .oExpr,[a0,a1,a2]=>(a0.Z9 (.int .i64)).bind λ b0=>(a1.Z9 (.int .i64)).bind λ b1=>(a2.Z9 (.mv (.st .expr))).bind λ b2=>some (mD.mk b0 b1 b2)
 | .word,[a0,a1]=>(a0.Z9 (.slice (.int .i64))).bind λ b0=>(a1.Z9 (.slice (.int .i64))).bind λ b1=>some (tG.mk b0 b1)
 | .automaton,[a0,a1,a2,a3]=>(a0.Z9 (.int .i64)).bind λ b0=>(a1.Z9 (.int .i64)).bind λ b1=>(a2.Z9 (.slice (.slice (.bool)))).bind λ b2=>(a3.Z9 (.slice (.slice (.slice (.int .i64))))).bind λ b3=>some (aj.mk (aF.mk b0 b1) b2 b3)
 | .l00Src,[a0,a1,a2]=>(a0.Z9 (.slice (.int .u8))).bind λ b0=>(a1.Z9 (.int .i64)).bind λ b1=>(a2.Z9 (.int .u64)).bind λ b2=>some (jV.mk b0 b1 b2)
 | .l01Gen,[a0,a1,a2,a3]=>(a0.Z9 (.ptr)).bind λ b0=>(a1.Z9 (.int .i64)).bind λ b1=>(a2.Z9 (.int .i64)).bind λ b2=>(a3.Z9 (.int .i64)).bind λ b3=>some (jW.mk b0 (aF.mk b1 b2) b3)
 | .reached,[a0,a1,a2,a3,a4]=>(a0.Z9 (.int .i64)).bind λ b0=>(a1.Z9 (.int .i64)).bind λ b1=>(a2.Z9 (.int .i64)).bind λ b2=>(a3.Z9 (.int .i64)).bind λ b3=>(a4.Z9 (.int .i64)).bind λ b4=>some (ia.mk (nJ.mk b0 b1) b2 b3 b4)
 | _,_=>none
def aG.mA:∀ {s:aG} {l:List TV} {x:s.den},s.e8 l=some x->s.cells x=l:=by
 intro s l x h;cases s;case arr2 =>
  match l,h with
  | [a0,a1],h =>
   simp only[aG.e8,b0e,a8V] at h;obtain⟨b0,h0,⟨b1,h1,rfl⟩⟩:=h;have e0:=TV.aQ h0;have e1:=TV.aQ h1;subst e0 e1;rfl
 case sig =>
  match l,h with
  | [a0,a1],h =>
   simp only[aG.e8,b0e,a8V] at h;obtain⟨b0,h0,⟨b1,h1,rfl⟩⟩:=h;have e0:=TV.aQ h0;have e1:=TV.aQ h1;subst e0 e1;rfl
 case expr =>
  match l,h with
  | [a0,a1,a2],h =>
   simp only[aG.e8,b0e,a8V] at h;obtain⟨b0,h0,⟨b1,h1,⟨b2,h2,rfl⟩⟩⟩:=h;have e0:=TV.aQ h0;have e1:=TV.aQ h1;have e2:=TV.aQ h2;subst e0 e1 e2;rfl
 case oExpr =>
  match l,h with
  | [a0,a1,a2],h =>
   simp only[aG.e8,b0e,a8V] at h;obtain⟨b0,h0,⟨b1,h1,⟨b2,h2,rfl⟩⟩⟩:=h;have e0:=TV.aQ h0;have e1:=TV.aQ h1;have e2:=TV.aQ h2;subst e0 e1 e2;rfl
 case word =>
  match l,h with
  | [a0,a1],h =>
   simp only[aG.e8,b0e,a8V] at h;obtain⟨b0,h0,⟨b1,h1,rfl⟩⟩:=h;have e0:=TV.aQ h0;have e1:=TV.aQ h1;subst e0 e1;rfl
 case automaton =>
  match l,h with
  | [a0,a1,a2,a3],h =>
   simp only[aG.e8,b0e,a8V] at h;obtain⟨b0,h0,⟨b1,h1,⟨b2,h2,⟨b3,h3,rfl⟩⟩⟩⟩:=h;have e0:=TV.aQ h0;have e1:=TV.aQ h1;have e2:=TV.aQ h2;have e3:=TV.aQ h3;subst e0 e1 e2 e3;rfl
 case l00Src =>
  match l,h with
  | [a0,a1,a2],h =>
   simp only[aG.e8,b0e,a8V] at h;obtain⟨b0,h0,⟨b1,h1,⟨b2,h2,rfl⟩⟩⟩:=h;have e0:=TV.aQ h0;have e1:=TV.aQ h1;have e2:=TV.aQ h2;subst e0 e1 e2;rfl
 case l01Gen =>
  match l,h with
  | [a0,a1,a2,a3],h =>
   simp only[aG.e8,b0e,a8V] at h;obtain⟨b0,h0,⟨b1,h1,⟨b2,h2,⟨b3,h3,rfl⟩⟩⟩⟩:=h;have e0:=TV.aQ h0;have e1:=TV.aQ h1;have e2:=TV.aQ h2;have e3:=TV.aQ h3;subst e0 e1 e2 e3;rfl
 case reached =>
  match l,h with
  | [a0,a1,a2,a3,a4],h =>
   simp only[aG.e8,b0e,a8V] at h;obtain⟨b0,h0,⟨b1,h1,⟨b2,h2,⟨b3,h3,⟨b4,h4,rfl⟩⟩⟩⟩⟩:=h;have e0:=TV.aQ h0;have e1:=TV.aQ h1;have e2:=TV.aQ h2;have e3:=TV.aQ h3;have e4:=TV.aQ h4;subst e0 e1 e2 e3 e4;rfl
def aG.fF(s:aG)(x:s.den):(s.cells x).length=s.size:=by cases s<;>rfl
def aG.iQ(s:aG)(x:s.den):(s.cells x).map TV.τ=s.nr:=by cases s<;>rfl
def aG.ns(s:aG)(x:s.den):(s.fields x).map TV.τ=s.dc:=by cases s<;>rfl
def Ty.size:Ty->Nat
 | .st s=>s.size
 | _=>1
def TV.cells(v:TV):List TV :=
 match v with
 | ⟨.st s,x⟩=>s.cells x
 | v=>[v]
def aG.xF(s:aG)(x:s.den):s.cells x=(s.fields x).flatMap TV.cells:=by cases s<;>rfl
def nJ.aE(x:nJ):D := .agg [.int .i64 x.a0, .int .i64 x.a1]
def aF.aE(x:aF):D := .agg [.int .i64 x.aK, .int .i64 x.au]
mutual
def J.aE:J->D
 | ⟨ah,bl,ae⟩ => .agg [.int .i64 ah, .int .i64 bl, .slice 3 (J.a2t ae)]
def J.a2t:List J->List D
 | []=>[]
 | e::r=>e.aE::J.a2t r
end
def J.JP:∀ l,J.a2t l=l.map J.aE
 | []=>rfl
 | _::r=>congrArg _ (J.JP r)
def mD.aE(x:mD):D := .agg [.int .i64 x.ah, .int .i64 x.bl,mvD 3 (λ y=>J.aE y) x.ae]
def tG.aE(x:tG):D := .agg [.slice 1 (x.SC.map λ y => .int .i64 y), .slice 1 (x.XS.map λ y => .int .i64 y)]
def aj.aE(x:aj):D := .agg [.int .i64 x.sig.aK, .int .i64 x.sig.au, .slice 1 (x.accept.map λ y => .slice 1 (y.map λ y => .bool y)), .slice 1 (x.next.map λ y => .slice 1 (y.map λ y => .slice 1 (y.map λ y => .int .i64 y)))]
def jV.aE(x:jV):D := .agg [.slice 1 (x.O.map λ y => .int .u8 y), .int .i64 x.pos, .int .u64 x.az]
def jW.aE(x:jW):D := .agg [.ptr, .int .i64 x.g.aK, .int .i64 x.g.au, .int .i64 x.left]
def ia.aE(x:ia):D := .agg [.int .i64 x.pair.a0, .int .i64 x.pair.a1, .int .i64 x.frm, .int .i64 x.atom, .int .i64 x.act]
def aG.aE:(s:aG)->s.den->D
 | .arr2,x=>nJ.aE x
 | .sig,x=>aF.aE x
 | .expr,x=>J.aE x
 | .oExpr,x=>mD.aE x
 | .word,x=>tG.aE x
 | .automaton,x=>aj.aE x
 | .l00Src,x=>jV.aE x
 | .l01Gen,x=>jW.aE x
 | .reached,x=>ia.aE x
def Ty.aE:(t:Ty)->t.den->D
 | .int k,n => .int k n
 | .bool,b => .bool b
 | .str,s => .str s
 | .slice t,xs => .slice t.size (xs.map t.aE)
 | .st s,x=>s.aE x
 | .mv t,o=>mvD t.size t.aE o
 | .ptr,_ => .ptr
def TV.aE(v:TV):D:=v.τ.aE v.x
def aG.bQ(s:aG)(x:s.den):s.aE x = .agg ((s.cells x).map TV.aE):=by
 cases s<;>first
  | rfl
  | (cases x;simp[aG.aE,J.aE,aG.cells,TV.aE,Ty.aE,Ty.size,aG.size,J.JP];done)
  | (simp[aG.aE,aG.cells,TV.aE,Ty.aE,Ty.size,aG.size,nJ.aE,aF.aE,J.aE,mD.aE,tG.aE,aj.aE,jV.aE,jW.aE,ia.aE,J.JP];done)
def aG.zero:(s:aG)->s.den
 | .arr2=>(nJ.mk 0 0)
 | .sig=>(aF.mk 0 0)
 | .expr=>(J.mk 0 0 [])
 | .oExpr=>(mD.mk 0 0 none)
 | .word=>(tG.mk [] [])
 | .automaton=>(aj.mk (aF.mk 0 0) [] [])
 | .l00Src=>(jV.mk [] 0 0)
 | .l01Gen=>(jW.mk () (aF.mk 0 0) 0)
 | .reached=>(ia.mk (nJ.mk 0 0) 0 0 0)
def Ty.zero:(t:Ty)->t.den
 | .int _=>(0:Int)
 | .bool=>false
 | .str=>([]:List UInt8)
 | .slice _=>[]
 | .st s=>s.zero
 | .mv _=>none
 | .ptr=>()
instance:Inhabited nJ:=⟨aG.zero .arr2⟩
def nJ.eta(x:nJ):nJ.mk x.a0 x.a1=x:=by cases x;rfl
instance:Inhabited aF:=⟨aG.zero .sig⟩
def aF.eta(x:aF):aF.mk x.aK x.au=x:=by cases x;rfl
instance:Inhabited J:=⟨aG.zero .expr⟩
def J.eta(x:J):J.mk x.ah x.bl x.ae=x:=by cases x;rfl
instance:Inhabited mD:=⟨aG.zero .oExpr⟩
def mD.eta(x:mD):mD.mk x.ah x.bl x.ae=x:=by cases x;rfl
instance:Inhabited tG:=⟨aG.zero .word⟩
def tG.eta(x:tG):tG.mk x.SC x.XS=x:=by cases x;rfl
instance:Inhabited aj:=⟨aG.zero .automaton⟩
def aj.eta(x:aj):aj.mk x.sig x.accept x.next=x:=by cases x;rfl
instance:Inhabited jV:=⟨aG.zero .l00Src⟩
def jV.eta(x:jV):jV.mk x.O x.pos x.az=x:=by cases x;rfl
instance:Inhabited jW:=⟨aG.zero .l01Gen⟩
def jW.eta(x:jW):jW.mk x.s x.g x.left=x:=by cases x;rfl
instance:Inhabited ia:=⟨aG.zero .reached⟩
def ia.eta(x:ia):ia.mk x.pair x.frm x.atom x.act=x:=by cases x;rfl
def aU(x:J):J:=J.mk x.ah x.bl x.ae
def cC(x:J):aU x=x:=by cases x;simp[aU]
def aG.Wy:∀ (s:aG) (fl:List TV),fl.map TV.τ=s.dc->∃ x,s.fields x=fl
 | .arr2,fl,h=>by
  match fl,h with
  | [⟨t0,a0⟩,⟨t1,a1⟩],h =>
   simp only[a9x,b0y,aG.dc,a9a,a9q] at h;obtain⟨rfl,rfl⟩:=h;exact⟨⟨a0,a1⟩,rfl⟩
 | .sig,fl,h=>by
  match fl,h with
  | [⟨t0,a0⟩,⟨t1,a1⟩],h =>
   simp only[a9x,b0y,aG.dc,a9a,a9q] at h;obtain⟨rfl,rfl⟩:=h;exact⟨⟨a0,a1⟩,rfl⟩
 | .expr,fl,h=>by
  match fl,h with
  | [⟨t0,a0⟩,⟨t1,a1⟩,⟨t2,a2⟩],h =>
   simp only[a9x,b0y,aG.dc,a9a,a9q] at h;obtain⟨rfl,rfl,rfl⟩:=h;exact⟨⟨a0,a1,a2⟩,rfl⟩
 | .oExpr,fl,h=>by
  match fl,h with
  | [⟨t0,a0⟩,⟨t1,a1⟩,⟨t2,a2⟩],h =>
   simp only[a9x,b0y,aG.dc,a9a,a9q] at h;obtain⟨rfl,rfl,rfl⟩:=h;exact⟨⟨a0,a1,a2⟩,rfl⟩
 | .word,fl,h=>by
  match fl,h with
  | [⟨t0,a0⟩,⟨t1,a1⟩],h =>
   simp only[a9x,b0y,aG.dc,a9a,a9q] at h;obtain⟨rfl,rfl⟩:=h;exact⟨⟨a0,a1⟩,rfl⟩
 | .automaton,fl,h=>by
  match fl,h with
  | [⟨t0,a0⟩,⟨t1,a1⟩,⟨t2,a2⟩],h =>
   simp only[a9x,b0y,aG.dc,a9a,a9q] at h;obtain⟨rfl,rfl,rfl⟩:=h;exact⟨⟨a0,a1,a2⟩,rfl⟩
 | .l00Src,fl,h=>by
  match fl,h with
  | [⟨t0,a0⟩,⟨t1,a1⟩,⟨t2,a2⟩],h =>
   simp only[a9x,b0y,aG.dc,a9a,a9q] at h;obtain⟨rfl,rfl,rfl⟩:=h;exact⟨⟨a0,a1,a2⟩,rfl⟩
 | .l01Gen,fl,h=>by
  match fl,h with
  | [⟨t0,a0⟩,⟨t1,a1⟩,⟨t2,a2⟩],h =>
   simp only[a9x,b0y,aG.dc,a9a,a9q] at h;obtain⟨rfl,rfl,rfl⟩:=h;exact⟨⟨a0,a1,a2⟩,rfl⟩
 | .reached,fl,h=>by
  match fl,h with
  | [⟨t0,a0⟩,⟨t1,a1⟩,⟨t2,a2⟩,⟨t3,a3⟩],h =>
   simp only[a9x,b0y,aG.dc,a9a,a9q] at h;obtain⟨rfl,rfl,rfl,rfl⟩:=h;exact⟨⟨a0,a1,a2,a3⟩,rfl⟩
abbrev zE:J:=J.mk (0:Int) (0:Int) []
def U:True:=trivial
noncomputable section
@[reducible] def FN:List Ty->Ty->Type
 | [],r=>Prop×r.den
 | t::ts,r=>t.den->FN ts r
structure FV where
 ps:List Ty
 r:Ty
 F:FN ps r
def FV.Z9(ps:List Ty)(r:Ty)(v:FV):Option (FN ps r):=if h:v.ps=ps then (if k:v.r=r then some (h ▸ k ▸ v.F) else none) else none
def FV.aQ{ps:List Ty}{r:Ty}{v:FV}{F:FN ps r}(h:v.Z9 ps r=some F):v=⟨ps,r,F⟩:=by
 unfold FV.Z9 at h;split at h
 .split at h
  .rename_i e k;obtain⟨ps',r',F'⟩:=v;simp only at e k;subst e k;simp at h;subst h;rfl
  .cases h
 .cases h
@[simp] theorem FV.Wj(ps:List Ty)(r:Ty)(F:FN ps r):FV.Z9 ps r ⟨ps,r,F⟩=some F:=by simp[FV.Z9]
structure MV where
 κ:Ty
 ε:Ty
 f:κ.den->Option ε.den
 n:Nat
def MV.Z9(κ ε:Ty)(m:MV):Option ((κ.den->Option ε.den)×Nat):=if h:m.κ=κ then (if k:m.ε=ε then some (h ▸ k ▸ (m.f,m.n)) else none) else none
def MV.aQ{κ ε:Ty}{m:MV}{F:(κ.den->Option ε.den)×Nat}(h:m.Z9 κ ε=some F):m=⟨κ,ε,F.1,F.2⟩:=by
 unfold MV.Z9 at h;split at h
 .split at h
  .rename_i e k;obtain⟨κ',ε',f',n'⟩:=m;simp only at e k;subst e k;simp at h;subst h;rfl
  .cases h
 .cases h
@[simp] theorem MV.Wj(κ ε:Ty)(f:κ.den->Option ε.den)(n:Nat):MV.Z9 κ ε ⟨κ,ε,f,n⟩=some (f,n):=by simp[MV.Z9]
def qO{α β:Type}(f:α->Option β)(k:α)(v:β):α->Option β:=λ x => @ite _ (x=k) (Classical.propDecidable _) (some v) (f x)
def xZ(α β:Type):α->Option β:=λ _=>none
def qN{β:Type}(o:Option β)(n:Nat):Nat:=bif o.isSome then n else n+1
inductive AV where
 | any
 | dR
 | aN (v:TV)
 | nil
 | cS (v:TV)
 | ptr (id off:Nat)
 | row (id:Nat)
 | dX (id i off:Nat)
 | agg (cs:List AV)
 | gb (vs:List AV)
 | fn (f:FuncId)
 | aC (id:Nat)
 | sub (id i off sz:Nat)
 | eo (id i off sz:Nat)
 | cN (f:FuncId) (cs:List AV)
 | gv (v:FV)
 | mp (id:Nat)
inductive av where
 | box (cs:List AV)
 | row (e:TypeId) (τ:Ty) (xs:List τ.den)
 | aC (τ:Ty) (xs:List τ.den)
 | map (m:MV)
structure ag where
 aw:List AV
 aH:List (Nat×av)
inductive Arg where
 | val (v:TV)
 | ref (v:TV)
 | fn (f:FuncId)
 | cN (v:FV)
 | own (v:TV)
 | box (k:Nat)
inductive CK where
 | d (τ:Ty)
 | o (τ:Ty)
 | p (k:Nat)
structure SK where
 ps:List (Option Nat)
 sh:List (List CK)
def af{α:Type}:List (Nat×α)->Nat->Option α
 | [],_=>none
 | (k,v)::r,n=>match Nat.beq k n with
  | true=>some v
  | false=>af r n
abbrev Vc:=Option Prop
def Vc.ok:Vc->Prop
 | .none=>True
 | .some p=>p
def Vc.and(v:Vc)(K:Prop):Prop:=match v with
 | .none=>K
 | .some p=>p/\K
def Vc.iP{v:Vc}{K:Prop}(h:v.and K):v.ok/\K:=by
 cases v with
 | none=>exact⟨U,h⟩
 | some p=>exact h
structure Ul where
 τ:Ty
 g:τ.den->Int->Vc×τ.den×Int
structure yc where
 ps:List Ty
 r:Ty
 ei:List (Bool×Ty)
def Arg.Hq:Arg->Bool
 | .ref _ | .cN _ | .box _=>false
 | _=>true
inductive XP where
 | box (cells:List TV)
 | row (e:TypeId) (τ:Ty) (xs:List τ.den)
 | res (l:List (Bool×TV))
structure Env where
 ty:List (Nat×Ty×Nat×Nat)
 TT:List (Nat×Ty)
 Kc:Nat->List Arg->Option (Vc×List TV)
 wr:List Nat:=[]
 own:List Nat:=[]
 Jl:Nat->List Arg->Option (Vc×List TV):=λ _ _=>none
 mark:Nat->Option Ul:=λ _=>none
 cN:Nat->Option yc:=λ _=>none
 ro:List Nat:=[]
 tk:Nat->List Bool:=λ _=>[]
 sk:Nat->Option SK:=λ _=>none
 Se:Nat->List Arg->List (List TV)->Option (Vc×List TV×List (List TV)):=λ _ _ _=>none
 K3:List (Nat×Ty×Ty):=[]
 PT:Nat->List Arg->Option (Vc×XP):=λ _ _=>none
 cmp:List Nat:=[]
def ag.af(s:ag)(id:Nat):Option av:=YtofnjfpeimhifaaGreatDoor.af s.aH id
def Oy(k:IntKind)(n:Int):Bool :=
 match n with
 | .ofNat m=>match k with
  | .i64=>Nat.ble m 9223372036854775807
  | .u64=>Nat.ble m 18446744073709551615
  | .u8=>Nat.ble m 255
  | _=>Nat.ble m 127
 | .negSucc m=>match k with
  | .i64=>Nat.ble m 9223372036854775807
  | _=>false
def H8:Value->AV
 | .int k n=>match Oy k n with
  | true => .aN ⟨.int k,n⟩
  | false => .any
 | .bool b => .aN ⟨.bool,b⟩
 | .string s=>match Nat.ble s.data.size 1000000 with
  | true => .aN ⟨.str,s.data.toList⟩
  | false => .any
 | .slice none 0 0 => .nil
 | _ => .any
def Uw:Value->AV
 | .agg cs => .agg (cs.toList.map H8)
 | .tuple cs=>match Nat.beq cs.size 0 with
  | true => .dR
  | false => .any
 | v=>H8 v
def ag.eval(s:ag):Operand->AV
 | .tmp t=>s.aw.getD t .any
 | .const v=>Uw v
 | .func f => .fn f
 | .global _ => .any
def iH(lk:Nat->Option av)(τ:Ty):AV->Option τ.den
 | .aN v=>v.Z9 τ
 | .nil=>match τ with
  | .slice _=>some []
  | _=>none
 | .row id=>match lk id with
  | some (.row _ aT xs)=>TV.Z9 τ ⟨.slice aT,xs⟩
  | _=>none
 | .aC id=>match lk id with
  | some (.aC aT xs)=>TV.Z9 τ ⟨.slice aT,xs⟩
  | _=>none
 | _=>none
def Jj(lk:Nat->Option av)(id:Nat):Option av:=match lk id with
 | some (.aC _ _)=>none
 | o=>o
def Oc(lk:Nat->Option av):List AV->List Ty->Option (List TV)
 | [],[]=>some []
 | c::cs,t::ts=>match iH lk t c with
  | some x=>match Oc lk cs ts with
   | some r=>some (⟨t,x⟩::r)
   | none=>none
  | none=>none
 | _,_=>none
def qt(lk:Nat->Option av)(τ:Ty):AV->Option τ.den
 | .agg cs=>match τ with
  | .st s=>match Oc lk cs s.nr with
   | some l=>s.e8 l
   | none=>none
  | _=>none
 | v=>iH lk τ v
def AV.cell:AV->Bool
 | .any | .dR | .agg _ | .gb _ | .eo .. | .cN .. | .gv .. => false
 | .aN v=>match v.τ with
  | .st _=>false
  | _=>true
 | _=>true
def cellsOf(τ:Ty)(v:AV):Option (List AV) :=
 match τ with
 | .st s=>match v with
  | .aN x=>match x.Z9 (.st s) with
   | some y=>some ((s.cells y).map .aN)
   | none=>none
  | .agg cs=>match Nat.beq cs.length s.size&&cs.all AV.cell with
   | true=>some cs
   | false=>none
  | _=>none
 | _=>match v.cell with
  | true=>some [v]
  | false=>none
def D7(cs:List AV)(off:Nat)(τ:Ty):Option AV :=
 match τ with
 | .st s=>match Nat.ble (off+s.size) cs.length with
  | true=>some (.agg ((cs.drop off).take s.size))
  | false=>none
 | _=>cs[off]?
def putCells(cs:List AV)(off:Nat)(new:List AV):Option (List AV) :=
 match Nat.ble (off+new.length) cs.length with
 | true=>some (cs.take off++(new++cs.drop (off+new.length)))
 | false=>none
def TV.part(v:TV)(off:Nat)(τ:Ty):Option TV :=
 match Nat.beq off 0&&decide (v.τ=τ) with
 | true=>some v
 | false=>match v.cells[off]? with
  | some u=>match decide (u.τ=τ) with
   | true=>some u
   | false=>none
  | none=>none
def TV.Xr(v:TV)(off:Nat):Ty->Option AV
 | .st s=>match Nat.ble (off+s.size) v.cells.length with
  | true=>some (.agg (((v.cells.drop off).take s.size).map .aN))
  | false=>none
 | _=>none
def ql(lk:Nat->Option av)(τ:Ty):AV->Option AV
 | .cS v=>match decide (v.τ=τ) with
  | true=>some (.aN v)
  | false=>none
 | .ptr id off=>match lk id with
  | some (.box cs)=>D7 cs off τ
  | _=>none
 | .dX id i off=>match lk id with
  | some (.row _ aT xs)=>match TV.part ⟨aT,xs.getD i aT.zero⟩ off τ with
   | some u=>some (.aN u)
   | none=>TV.Xr ⟨aT,xs.getD i aT.zero⟩ off τ
  | _=>none
 | _=>none
def deref(lk:Nat->Option av)(τ:Ty)(v:AV):Option τ.den :=
 match ql lk τ v with
 | some u=>qt lk τ u
 | none=>none
def aG.dx(s:aG)(i:Nat):Nat:=((s.dc.take i).map Ty.size).sum
def zeroCell(τ:Ty):AV :=
 match τ with
 | .slice _ => .nil
 | τ => .aN ⟨τ,τ.zero⟩
def zeroCells(τ:Ty):List AV :=
 match τ with
 | .st s=>s.nr.map zeroCell
 | τ=>[zeroCell τ]
def nR(lk:Nat->Option av):List (Bool×Ty)->List AV->Option (List Arg)
 | [],[]=>some []
 | (true,τ)::ks,v::vs=>match deref lk τ v with
  | some x=>match nR lk ks vs with
   | some r=>some (.ref ⟨τ,x⟩::r)
   | none=>none
  | none=>none
 | (false,τ)::ks,v::vs=>match qt lk τ v with
  | some x=>match nR lk ks vs with
   | some r=>some (.val ⟨τ,x⟩::r)
   | none=>none
  | none=>none
 | _,_=>none
def Ou(E:Env)(f:FuncId)(ei:List Arg):(ps:List Ty)->(r:Ty)->List Arg->FN ps r
 | [],r,acc=>match E.Kc f (acc++ei) with
  | some (pre,[v])=>match v.Z9 r with
   | some y=>(pre.ok,y)
   | none=>(False,r.zero)
  | _=>(False,r.zero)
 | t::ts,r,acc=>λ x=>Ou E f ei ts r (acc++[.val ⟨t,x⟩])
def qX:(ps:List Ty)->(r:Ty)->FN ps r->List Arg->Option (Prop×r.den)
 | [],_,F,[]=>some F
 | t::ts,r,F, .val a::zs=>match a.Z9 t with
  | some x=>qX ts r (F x) zs
  | none=>none
 | _,_,_,_=>none
def zW(E:Env)(lk:Nat->Option av):AV->Option FV
 | .cN f cs=>match E.cN f with
  | some k=>match nR lk k.ei cs with
   | some Z9=>some ⟨k.ps,k.r,Ou E f Z9 k.ps k.r []⟩
   | none=>none
  | none=>none
 | .gv v=>some v
 | .fn f=>match E.cN f with
  | some k=>match k.ei with
   | []=>some ⟨k.ps,k.r,Ou E f [] k.ps k.r []⟩
   | _=>none
  | none=>none
 | _=>none
def Oa(E:Env)(lk:Nat->Option av)(T:TypeId)(v:AV):Option Arg :=
 match af E.ty T with
 | some (τ,_)=>match qt lk τ v with
  | some x=>some (.val ⟨τ,x⟩)
  | none=>none
 | none=>match af E.TT T with
  | some τ=>match deref lk τ v with
   | some x=>some (.ref ⟨τ,x⟩)
   | none=>none
  | none=>match zW E lk v with
   | some q=>some (.cN q)
   | none=>match v with
    | .fn f=>some (.fn f)
    | _=>none
def kx(E:Env)(lk:Nat->Option av):List TypeId->List AV->Option (List Arg)
 | [],[]=>some []
 | T::Ts,v::vs=>match Oa E lk T v with
  | some x=>match kx E lk Ts vs with
   | some r=>some (x::r)
   | none=>none
  | none=>none
 | _,_=>none
def AQ:List TV->AV
 | [v] => .aN v
 | vs => .gb (vs.map .aN)
def ai(n:Int):Prop := -9223372036854775808<=n/\n<=9223372036854775807
def ca(k:IntKind)(n:Int):Prop :=
 match k with
 | .i64=>ai n
 | k=>k.min<=n/\n<=k.max
def aB(n:Int)(len:Nat):Prop:=0<=n/\n<(len:Int)
def fv(l h:Int)(len:Nat):Prop:=0<=l/\l<=h/\h<=(len:Int)
def dh(n m:Int)(b:Nat):Prop:=0<=n/\n<=m/\m * ((b:Int)+1)<=140737488355328
def bz(n b:Nat):Prop:=n * (b+1)<=140737488355328
def arith(op:BinOp)(k:IntKind)(a b:Int):Option (Vc×Int) :=
 match op with
 | .add=>match k with
  | .u64=>some (.none,IntKind.u64.wrap (a+b))
  | k=>some (.some (ca k (a+b)),a+b)
 | .sub=>some (.some (ca k (a - b)),a - b)
 | .mul=>match k with
  | .u64=>some (.none,IntKind.u64.wrap (a * b))
  | k=>some (.some (ca k (a * b)),a * b)
 | .quo=>some (.some (b≠0/\ca k (a.tdiv b)),a.tdiv b)
 | .rem=>some (.some (b≠0/\ca k (a.tmod b)),a.tmod b)
 | .shl=>some (.some (0<=b/\b<k.bits/\ca k (a * 2 ^ b.toNat)),a * 2 ^ b.toNat)
 | .shr=>some (.some (0<=b/\b<k.bits/\ca k (a.fdiv (2 ^ b.toNat))),a.fdiv (2 ^ b.toNat))
 | .and=>some (.some (0<=a/\0<=b/\ca k a/\ca k b),((a.toNat &&& b.toNat:Nat):Int))
 | _=>none
def cmp(op:BinOp)(a b:Int):Option Bool :=
 match op with
 | .eql=>some (decide (a=b))
 | .neq=>some (!decide (a=b))
 | .lss=>some (decide (a<b))
 | .leq=>some (decide (a<=b))
 | .gtr=>some (decide (b<a))
 | .geq=>some (decide (b<=a))
 | _=>none
def SA(wr:Bool)(op:BinOp)(k:IntKind)(a b:Int):Option (Vc×Int) :=
 match wr with
 | true=>match op with
  | .add=>some (.none,k.wrap (a+b))
  | .sub=>some (.none,k.wrap (a - b))
  | .mul=>some (.none,k.wrap (a * b))
  | op=>arith op k a b
 | false=>arith op k a b
def Wp(tb wr:Bool)(op:BinOp)(u v:AV):Option (Vc×AV) :=
 match u,v with
 | .aN ⟨.int k,a⟩, .aN ⟨.int k',b⟩=>match SA wr op k a b with
  | some (p,r)=>match op with
   | .shl | .shr=>some (p, .aN ⟨.int k,r⟩)
   | _=>match decide (k=k') with
    | true=>some (p, .aN ⟨.int k,r⟩)
    | false=>none
  | none=>match decide (k=k') with
   | true=>match cmp op a b with
    | some c=>some (.none, .aN ⟨.bool,c⟩)
    | none=>none
   | false=>none
 | .aN ⟨.bool,a⟩, .aN ⟨.bool,b⟩=>match tb with
  | true=>match op with
   | .eql=>some (.none, .aN ⟨.bool,a == b⟩)
   | .neq=>some (.none, .aN ⟨.bool,!(a == b)⟩)
   | _=>none
  | false=>none
 | .aN ⟨.str,a⟩, .aN ⟨.str,b⟩=>match op with
  | .eql=>some (.none, .aN ⟨.bool,decide (a=b)⟩)
  | .neq=>some (.none, .aN ⟨.bool,!decide (a=b)⟩)
  | .add=>some (.some (a.length+b.length<=140737488355328), .aN ⟨.str,a++b⟩)
  | _=>none
 | _,_=>none
def partsOf(E:Env)(s:aG)(cs:List AV):List (Nat×AV)->Option (List AV)
 | []=>some cs
 | (i,v)::r=>match s.dc[i]? with
  | some τ=>match cellsOf τ v with
   | some new=>match putCells cs (s.dx i) new with
    | some du=>partsOf E s du r
    | none=>none
   | none=>none
  | none=>none
def qC(τ:Ty):Nat->List (Nat×AV)->Option (List τ.den)
 | _,[]=>some []
 | n,(
    i,v)::r=>match Nat.beq i n with
  | true=>match qt (λ _=>none) τ v with
   | some x=>match qC τ (n+1) r with
    | some xs=>some (x::xs)
    | none=>none
   | none=>none
  | false=>none
def TV.flat(v:TV):Bool:=v.cells.all λ u=>match u.τ with
 | .slice _=>false
 | .mv _=>false
 | _=>true
def nQ(d:Int):Option AV->Option Int
 | none=>some d
 | some (.aN ⟨.int _,n⟩)=>some n
 | _=>none
def qm(lk:Nat->Option av)(id:Nat):Option av:=match lk id with
 | some (.box cs)=>some (.box cs)
 | _=>none
def D3(E:Env)(lk:Nat->Option av)(f:FuncId)(Ts:List TypeId)(vs:List AV):Option (Vc×AV×Option av) :=
 match kx E (qm lk) Ts vs with
 | some Z9=>match E.Kc f Z9 with
  | some (pre,res)=>some (pre,AQ res,none)
  | none=>none
 | none=>match kx E lk Ts vs with
  | some Z9=>match E.Kc f Z9 with
   | some (pre,res)=>match res.all TV.flat with
    | true=>some (pre,AQ res,none)
    | false=>none
   | none=>none
  | none=>none
def yx(E:Env)(lk:Nat->Option av)(g:AV)(Ts:List TypeId)(vs:List AV):Option (Vc×AV×Option av) :=
 match (match kx E (qm lk) Ts vs with
  | some Z9=>match zW E (qm lk) g with
   | some q=>match qX q.ps q.r q.F Z9 with
    | some (pre,y)=>some (some pre,AQ [⟨q.r,y⟩],none)
    | none=>none
   | none=>none
  | none=>none) with
 | some r=>some r
 | none=>match kx E lk Ts vs with
  | some Z9=>match zW E lk g with
   | some q=>match qX q.ps q.r q.F Z9 with
    | some (pre,y)=>match TV.flat ⟨q.r,y⟩ with
     | true=>some (some pre,AQ [⟨q.r,y⟩],none)
     | false=>none
    | none=>none
   | none=>none
  | none=>none
def AV.a0r:AV->Bool
 | .dR | .gb _ | .cN .. | .gv .. | .sub .. | .eo .. => false
 | _=>true
def OH:List TV->List TV->Option Bool
 | [],[]=>some true
 | ⟨.int .i64,a⟩::r,⟨.int .i64,b⟩::q=>match OH r q with
  | some t=>some (decide (a=b)&&t)
  | none=>none
 | _,_=>none
def JZ(E:Env)(T:TypeId):AV->AV
 | .agg cs=>match af E.ty T with
  | some (.st s,_)=>match qt (λ _=>none) (.st s) (.agg cs) with
   | some y => .aN ⟨.st s,y⟩
   | none => .agg cs
  | _ => .agg cs
 | u=>u
def XB(E:Env)(op:BinOp)(T:TypeId)(u v:AV):Option (Vc×AV) :=
 match af E.ty T,u,v with
 | some (.st s,_), .aN x, .aN y=>match E.cmp.contains T && !s.arr,x.Z9 (.st s),y.Z9 (.st s) with
  | true,some a,some b=>match OH (s.fields a) (s.fields b) with
   | some e=>match op with
    | .eql=>some (.none, .aN ⟨.bool,e⟩)
    | .neq=>some (.none, .aN ⟨.bool,!e⟩)
    | _=>none
   | none=>none
  | _,_,_=>none
 | _,_,_=>none
def TL(E:Env)(op:BinOp)(T:TypeId)(u v:AV):Option (Vc×AV) :=
 match af E.ty T,u,v with
 | some (.slice _,_), .aN ⟨.slice _,xs⟩, .nil=>match op with
  | .eql=>some (.some (1<=xs.length), .aN ⟨.bool,false⟩)
  | .neq=>some (.some (1<=xs.length), .aN ⟨.bool,true⟩)
  | _=>none
 | _,_,_=>XB E op T (JZ E T u) (JZ E T v)
def Ir(n:aG)(i:Nat):AV->Option AV
 | .cS v=>match v.Z9 (.st n) with
  | some y=>match (n.fields y)[i]? with
   | some f=>some (.cS f)
   | none=>none
  | none=>none
 | .ptr id off=>match Nat.blt i n.dc.length with
  | true=>some (.ptr id (off+n.dx i))
  | false=>none
 | .dX id k off=>match Nat.blt i n.dc.length with
  | true=>some (.dX id k (off+n.dx i))
  | false=>none
 | _=>none
def NB(n:aG)(i:Nat):AV->Option AV
 | .aN v=>match v.Z9 (.st n) with
  | some y=>match (n.fields y)[i]? with
   | some f=>some (.aN f)
   | none=>none
  | none=>none
 | .agg cs=>match n.dc[i]? with
  | some τ=>D7 cs (n.dx i) τ
  | none=>none
 | _=>none
def Hi(E:Env)(lk:Nat->Option av)(ev:Operand->AV)(o:Oper):Option (Vc×AV×Option av) :=
 match o.op with
 | .move x=>some (.none,ev x,none)
 | .assign x=>some (.none,ev x,none)
 | .pick c a b=>match ev c with
  | .aN ⟨.bool,true⟩=>some (.none,ev a,none)
  | .aN ⟨.bool,false⟩=>some (.none,ev b,none)
  | _=>none
 | .alloc T=>match o.dst,af E.ty T with
  | some d,some (τ,_)=>some (.none, .ptr d 0,some (.box (zeroCells τ)))
  | _,_=>none
 | .box T x=>match o.dst,af E.ty T with
  | some d,some (τ,_)=>match E.ro.contains d with
   | true=>match qt (λ _=>none) τ (ev x) with
    | some y=>some (.none, .cS ⟨τ,y⟩,none)
    | none=>none
   | false=>match cellsOf τ (ev x) with
    | some cs=>some (.none, .ptr d 0,some (.box cs))
    | none=>none
  | _,_=>none
 | .build T parts=>match af E.ty T with
  | some (.st n,_)=>match partsOf E n (zeroCells (.st n)) (parts.toList.map λ p=>(p.1,ev p.2)) with
   | some cs=>some (.none, .agg cs,none)
   | none=>none
  | _=>none
 | .buildSlice T len parts=>match o.dst,af E.ty T with
  | some d,some (.slice τ,_,e)=>match Nat.beq parts.size len&&Nat.ble len 1000 with
   | true=>match qC τ 0 (parts.toList.map λ p=>(p.1,ev p.2)) with
    | some xs=>match E.ro.contains d with
     | true=>some (.none, .aN ⟨.slice τ,xs⟩,none)
     | false=>some (.none, .row d,some (.row e τ xs))
    | none=>none
   | false=>none
  | _,_=>none
 | .load T a=>match af E.ty T with
  | some (τ,_)=>match ql lk τ (ev a) with
   | some v=>some (.none,v,none)
   | none=>none
  | none=>none
 | .nilCheck x=>match ev x with
  | .cS v=>some (.none, .cS v,none)
  | .ptr id off=>some (.none, .ptr id off,none)
  | .dX id i off=>some (.none, .dX id i off,none)
  | _=>none
 | .fieldAddr T x i=>match af E.ty T with
  | some (.st n,_)=>match n.arr with
   | true=>none
   | false=>match Ir n i (ev x) with
    | some v=>some (.none,v,none)
    | none=>none
  | _=>none
 | .field T x i=>match af E.ty T with
  | some (.st n,_)=>match n.arr with
   | true=>none
   | false=>match NB n i (ev x) with
    | some v=>some (.none,v,none)
    | none=>none
  | _=>none
 | .indexAddr T x ix=>match af E.ty T with
  | some (
      .slice τ,_)=>match ev ix with
   | .aN ⟨.int _,n⟩=>match ev x with
    | .aN v=>match v.Z9 (.slice τ) with
     | some xs=>some (.some (aB n xs.length), .cS ⟨τ,xs.getD n.toNat τ.zero⟩,none)
     | none=>none
    | .row id=>match lk id with
     | some (.row _ aT xs)=>match decide (aT=τ) with
      | true=>some (.some (aB n xs.length), .dX id n.toNat 0,none)
      | false=>none
     | _=>none
    | _=>none
   | _=>none
  | some (.st n,_)=>match n.arr,ev ix with
   | true, .aN ⟨.int _, .ofNat i⟩=>match Ir n i (ev x) with
    | some v=>some (.none,v,none)
    | none=>none
   | _,_=>none
  | _=>none
 | .index T x ix=>match af E.ty T with
  | some (.str,_)=>match ev ix with
   | .aN ⟨.int _,n⟩=>match ev x with
    | .aN ⟨.str,xs⟩=>some (.some (aB n xs.length), .aN ⟨.int .u8,((xs.getD n.toNat 0).toNat:Int)⟩,none)
    | _=>none
   | _=>none
  | some (.st n,_)=>match n.arr,ev ix with
   | true, .aN ⟨.int _, .ofNat i⟩=>match NB n i (ev x) with
    | some v=>some (.none,v,none)
    | none=>none
   | _,_=>none
  | _=>none
 | .binOp op T x y _=>match TL E op T (ev x) (ev y) with
  | some (p,v)=>some (p,v,none)
  | none=>match Wp (match af E.ty T with
   | some (.bool,_)=>true
   | _=>false) (match o.dst with
   | some d=>E.wr.contains d
   | none=>false) op (ev x) (ev y) with
   | some (p,v)=>some (p,v,none)
   | none=>none
 | .unOp op _ x=>match op,ev x with
  | .not, .aN ⟨.bool,b⟩=>some (.none, .aN ⟨.bool,!b⟩,none)
  | .neg, .aN ⟨.int k,n⟩=>some (.some (ca k (-n)), .aN ⟨.int k,-n⟩,none)
  | _,_=>none
 | .convert src dst x=>match af E.ty src,af E.ty dst with
  | some (.int _,_),some (.int k,_)=>match ev x with
   | .aN ⟨.int _,n⟩=>some (.some (ca k n), .aN ⟨.int k,n⟩,none)
   | _=>none
  | _,_=>none
 | .slice T x lo hi mx=>match af E.ty T,mx with
  | some (.slice τ,_),none=>match ev x with
   | .aN v=>match v.Z9 (.slice τ) with
    | some xs=>match nQ 0 (lo.map ev),nQ (xs.length:Int) (hi.map ev) with
     | some l,some h=>some (.some (fv l h xs.length), .aN ⟨.slice τ,(xs.take h.toNat).drop l.toNat⟩,none)
     | _,_=>none
    | none=>none
   | _=>none
  | some (.str,_),none=>match ev x with
   | .aN ⟨.str,xs⟩=>match nQ 0 (lo.map ev),nQ (xs.length:Int) (hi.map ev) with
    | some l,some h=>some (.some (fv l h xs.length), .aN ⟨.str,(xs.take h.toNat).drop l.toNat⟩,none)
    | _,_=>none
   | _=>none
  | _,_=>none
 | .extract t i=>match ev t with
  | .gb vs=>match vs[i]? with
   | some v=>some (.none,v,none)
   | none=>none
  | _=>none
 | .makeSlice T l c=>match o.dst,af E.ty T with
  | some d,some (.slice τ,b,e)=>match ev l,ev c with
   | .aN ⟨.int .i64,n⟩, .aN ⟨.int .i64,m⟩=>some (.some (dh n m b), .row d,some (.row e τ (List.replicate n.toNat τ.zero)))
   | _,_=>none
  | _,_=>none
 | .call c=>match c.callee with
  | .builtin .len=>match c.argTypes.toList,c.args.toList.map ev with
   | [T],[v]=>match af E.ty T with
    | some (.slice _,_)=>match v with
     | .nil=>some (.none, .aN ⟨.int .i64,(0:Int)⟩,none)
     | .aN ⟨.slice _,xs⟩=>some (.none, .aN ⟨.int .i64,(xs.length:Int)⟩,none)
     | .row id=>match lk id with
      | some (.row _ _ xs)=>some (.none, .aN ⟨.int .i64,(xs.length:Int)⟩,none)
      | _=>none
     | _=>none
    | some (.str,_)=>match v with
     | .aN ⟨.str,xs⟩=>some (.none, .aN ⟨.int .i64,(xs.length:Int)⟩,none)
     | _=>none
    | none=>match v,af E.K3 T with
     | .mp id,some _=>match lk id with
      | some (.map m)=>some (.none, .aN ⟨.int .i64,(m.n:Int)⟩,none)
      | _=>none
     | _,_=>none
    | _=>none
   | _,_=>none
  | .builtin .append=>match o.dst,c.argTypes.toList with
   | some d,[T,T']=>match Nat.beq T T',af E.ty T with
    | true,some (.slice τ,b,e)=>match c.args.toList.map ev with
     | [.nil,y]=>match iH (Jj lk) (.slice τ) y with
      | some ys=>some (.some (bz ys.length b), .row d,some (.row e τ ys))
      | none=>none
     | _=>none
    | _,_=>none
   | _,_=>none
  | .builtin .max=>match c.args.toList.map ev with
   | [.aN ⟨.int k,m⟩, .aN ⟨.int k',n⟩]=>match decide (k'=k) with
    | true=>some (.none, .aN ⟨.int k,(max m n:Int)⟩,none)
    | false=>none
   | _=>none
  | .value (.func f)=>D3 E lk f c.argTypes.toList (c.args.toList.map ev)
  | .value (.tmp t)=>match ev (.tmp t) with
   | .fn f=>D3 E lk f c.argTypes.toList (c.args.toList.map ev)
   | .cN f cs=>yx E lk (.cN f cs) c.argTypes.toList (c.args.toList.map ev)
   | .gv v=>yx E lk (.gv v) c.argTypes.toList (c.args.toList.map ev)
   | _=>none
  | _=>none
 | .makeMap T none=>match o.dst,af E.K3 T with
  | some d,some (κ,ε)=>some (.none, .mp d,some (.map ⟨κ,ε,xZ κ.den ε.den,0⟩))
  | _,_=>none
 | .lookup T x ix ok=>match af E.K3 T with
  | some (
      κ,ε)=>match ev x,qt (λ _=>none) κ (ev ix) with
   | .mp id,some k=>match lk id with
    | some (.map m)=>match m.Z9 κ ε with
     | some (f,_)=>match ok with
      | true=>some (.none, .gb [.aN ⟨ε,(f k).getD ε.zero⟩, .aN ⟨.bool,(f k).isSome⟩],none)
      | false=>some (.none, .aN ⟨ε,(f k).getD ε.zero⟩,none)
     | none=>none
    | _=>none
   | _,_=>none
  | none=>none
 | .makeFunc fn first captured=>match fn,first.toList,(captured.toList.map ev).all AV.a0r with
  | .func f,[],true=>match captured.toList.map ev with
   | []=>some (.none, .fn f,none)
   | cs=>some (.none, .cN f cs,none)
  | _,_,_=>none
 | _=>none
mutual
def AV.refs(id:Nat):AV->Bool
 | .ptr i _=>Nat.beq i id
 | .row i=>Nat.beq i id
 | .dX i _ _=>Nat.beq i id
 | .aC i=>Nat.beq i id
 | .sub i _ _ _=>Nat.beq i id
 | .eo i _ _ _=>Nat.beq i id
 | .mp i=>Nat.beq i id
 | .agg cs=>AV.fB id cs
 | .gb cs=>AV.fB id cs
 | .cN _ cs=>AV.fB id cs
 | _=>false
def AV.fB(id:Nat):List AV->Bool
 | []=>false
 | v::r=>match AV.refs id v with
  | true=>true
  | false=>AV.fB id r
end
def AV.kill(id:Nat)(v:AV):AV:=match v.refs id with
 | true => .any
 | false=>v
def av.kill(id:Nat):av->av
 | .box cs => .box (cs.map (AV.kill id))
 | o=>o
def ag.bP(s:ag)(id:Nat):ag :=
 { aw:=s.aw.map (AV.kill id),aH:=s.aH.map λ p=>(p.1,p.2.kill id) }
def bB(id:Nat):List (Nat×av)->List (Nat×av)
 | []=>[]
 | (k,o)::r=>match Nat.beq k id with
  | true=>bB id r
  | false=>(k,o)::bB id r
def ag.put(s:ag)(d:Option Nat)(v:AV):ag :=
 match d with
 | some d=>{ s with aw:=s.aw.set d v }
 | none=>s
def ag.lay(s:ag)(d:Option Nat)(v:AV)(o:Option av):ag :=
 match o,d with
 | some o,some d =>
  let s':=s.bP d;{ aw:=s'.aw.set d v,aH:=(d,o.kill d)::bB d s'.aH }
 | _,d=>s.put d v
mutual
def AV.rows:AV->List Nat
 | .row i=>[i]
 | .agg cs=>AV.Xx cs
 | _=>[]
def AV.Xx:List AV->List Nat
 | []=>[]
 | v::r=>AV.rows v++AV.Xx r
end
def Ry(s:ag)(v:AV):List Nat :=
 match v with
 | .ptr id _=>match s.af id with
  | some (.box cs)=>AV.Xx cs
  | _=>[]
 | v=>v.rows
def a0f(s:ag)(v:AV):List Nat :=
 match v with
 | .cN _ cs=>cs.flatMap (Ry s)
 | v=>Ry s v
def ju(E:Env)(s:ag)(o:Oper):List Nat :=
 match (match o.dst with
  | some d=>E.own.contains d
  | none=>false) with
 | true=>[]
 | false=>match o.op with
 | .buildSlice _ _ parts=>parts.toList.flatMap λ p=>(s.eval p.2).rows
 | .slice _ x _ _ _=>(s.eval x).rows
 | .store _ a x=>match s.eval a with
  | .dX _ _ _=>(s.eval x).rows
  | _=>[]
 | .call c=>match c.callee with
  | .value _=>match E.Kc (match c.callee with
    | .value (.func f)=>f
    | .value (.tmp t)=>match s.eval (.tmp t) with
     | .fn f=>f
     | _=>0
    | _=>0) (match kx E s.af c.argTypes.toList (c.args.toList.map s.eval) with
     | some Z9=>Z9
     | none=>[]) with
   | some (_,res)=>match res.all TV.flat with
    | true=>[]
    | false=>c.args.toList.flatMap λ x=>a0f s (s.eval x)
   | none=>[]
  | _=>[]
 | _=>[]
mutual
def AV.EK(id:Nat)(u:AV):AV->AV
 | .row i=>match Nat.beq i id with
  | true=>u
  | false => .row i
 | .dX i k off=>match Nat.beq i id with
  | true => .any
  | false => .dX i k off
 | .agg cs => .agg (AV.OU id u cs)
 | .gb cs => .gb (AV.OU id u cs)
 | .cN f cs => .cN f (AV.OU id u cs)
 | v=>v
def AV.OU(id:Nat)(u:AV):List AV->List AV
 | []=>[]
 | v::r=>AV.EK id u v::AV.OU id u r
end
def av.EK(id:Nat)(u:AV):av->av
 | .box cs => .box (AV.OU id u cs)
 | o=>o
mutual
def AV.BV(id:Nat)(u:AV):AV->AV
 | .aC i=>match Nat.beq i id with
  | true=>u
  | false => .aC i
 | .sub i k off z=>match Nat.beq i id with
  | true => .any
  | false => .sub i k off z
 | .eo i k off z=>match Nat.beq i id with
  | true => .any
  | false => .eo i k off z
 | .agg cs => .agg (AV.OT id u cs)
 | .gb cs => .gb (AV.OT id u cs)
 | .cN f cs => .cN f (AV.OT id u cs)
 | v=>v
def AV.OT(id:Nat)(u:AV):List AV->List AV
 | []=>[]
 | v::r=>AV.BV id u v::AV.OT id u r
end
def av.BV(id:Nat)(u:AV):av->av
 | .box cs => .box (AV.OT id u cs)
 | o=>o
def ag.freeze(s:ag)(id:Nat):ag :=
 match s.af id with
 | some (.row _ τ xs) =>
  { aw:=AV.OU id (.aN ⟨.slice τ,xs⟩) s.aw,aH:=(bB id s.aH).map λ p=>(p.1,p.2.EK id (.aN ⟨.slice τ,xs⟩)) }
 | some (.aC τ xs) =>
  { aw:=AV.OT id (.aN ⟨.slice τ,xs⟩) s.aw,aH:=(bB id s.aH).map λ p=>(p.1,p.2.BV id (.aN ⟨.slice τ,xs⟩)) }
 | _=>s
def Ef(E:Env)(s:ag)(d:Option Nat)(T:TypeId)(m k x:Operand):Option (Vc×ag):=match af E.K3 T with
 | some (κ,ε)=>match s.eval m,s.eval x with
  | .mp id, .aN v=>match s.af id,qt (λ _=>none) κ (s.eval k),v.Z9 ε with
   | some (.map m),some k,some x=>match m.Z9 κ ε with
    | some (f,n)=>some (.some (n<1000000000),{ s with aH:=(id, .map ⟨κ,ε,qO f k x,qN (f k) n⟩)::bB id s.aH }.put d .any)
    | none=>none
   | _,_,_=>none
  | _,_=>none
 | none=>none
def SU(E:Env)(s:ag)(o:Oper):Option (Vc×ag) :=
 match o.op with
 | .mapUpdate T m k x=>Ef E s o.dst T m k x
 | .insert T m k x=>Ef E s o.dst T m k x
 | .store T a x=>match af E.ty T with
  | some (
      τ,_)=>match s.eval a with
   | .ptr id off=>match s.af id with
    | some (.box cs)=>match cellsOf τ (s.eval x) with
     | some new=>match putCells cs off new with
      | some du=>some (.none,{ s with aH:=(id, .box du)::bB id s.aH }.put o.dst .any)
      | none=>none
     | none=>none
    | _=>none
   | .dX id i 0=>match s.af id with
    | some (.row e' aT xs)=>match decide (aT=τ),qt (λ _=>none) aT (s.eval x) with
     | true,some x=>some (.none,{ s with aH:=(id, .row e' aT (xs.set i x))::bB id s.aH }.put o.dst .any)
     | _,_=>none
    | _=>none
   | _=>none
  | none=>none
 | .call c=>match c.callee with
  | .builtin .append=>match o.dst,c.argTypes.toList with
   | some d,[T,T']=>match Nat.beq T T',af E.ty T with
    | true,some (.slice τ,b,e)=>match c.args.toList.map s.eval with
     | [.row id,y]=>match s.af id,iH (Jj s.af) (.slice τ) y with
      | some (.row e' aT xs),some ys=>match Nat.beq e' e,TV.Z9 (.slice τ) ⟨.slice aT,xs⟩ with
       | true,some cM =>
        let s':=s.bP id;some (.some (bz (cM.length+ys.length) b),{ aw:=s'.aw.set d (.row id),aH:=(id, .row e τ (cM++ys))::bB id s'.aH })
       | _,_=>none
      | _,_=>none
     | _=>none
    | _,_=>none
   | _,_=>none
  | _=>none
 | _=>none
def nodupB:List Nat->Bool
 | []=>true
 | a::r=>match r.contains a with
  | true=>false
  | false=>nodupB r
def cP:Option av->Bool
 | some (.aC ..)=>true
 | _=>false
def jn(id:Nat):TV->AV
 | ⟨.slice _,_⟩ => .aC id
 | ⟨.mv _,_⟩ => .any
 | u => .aN u
def eU(id:Nat):TV->List (Nat×av)
 | ⟨.slice τ,xs⟩=>[(id, .aC τ xs)]
 | _=>[]
def bT:Nat->List TV->List AV
 | _,[]=>[]
 | id,u::r=>jn id u::bT (id+1) r
def bL:Nat->List TV->List (Nat×av)
 | _,[]=>[]
 | id,u::r=>eU id u++bL (id+1) r
def hU(id:Nat):TV->AV
 | ⟨.st s,y⟩ => .agg (bT id (s.cells y))
 | v=>jn id v
def Jp:Nat->List TV->List AV
 | _,[]=>[]
 | id,v::r=>hU id v::Jp (id+20) r
def bc:Nat->List TV->List (Nat×av)
 | _,[]=>[]
 | id,v::r=>bL id v.cells++bc (id+20) r
def jb(id:Nat):List TV->AV
 | [v]=>hU id v
 | vs => .gb (Jp id vs)
def Ty.agg:Ty->Bool
 | .st _=>true
 | _=>false
def Ty.sY:Ty->Bool
 | .int _ | .bool | .str | .ptr=>true
 | _=>false
def Ty.key:Ty->Bool
 | .int _ | .bool | .str=>true
 | _=>false
def Ty.Fy:Ty->Bool
 | .st s=>s.arr&&(decide (s.nr=[.int .i64, .int .i64])&&decide (s.dc=[.int .i64, .int .i64]))
 | t=>t.key
def Ty.plain:Ty->Bool
 | .st s=>s.nr.all Ty.sY
 | .slice _=>false
 | .mv _=>false
 | _=>true
def eB(lk:Nat->Option av)(τ:Ty):AV->Option (τ.den×List Nat)
 | .aN v=>match τ.sY,v.Z9 τ with
  | true,some y=>some (y,[])
  | _,_=>none
 | .nil=>match τ with
  | .slice _=>some ([],[])
  | _=>none
 | .aC id=>match lk id with
  | some (.aC aT xs)=>match TV.Z9 τ ⟨.slice aT,xs⟩ with
   | some y=>some (y,[id])
   | none=>none
  | _=>none
 | .row id=>match lk id with
  | some (.row _ aT xs)=>match aT.plain,TV.Z9 τ ⟨.slice aT,xs⟩ with
   | true,some y=>some (y,[id])
   | _,_=>none
  | _=>none
 | _=>none
def JK(lk:Nat->Option av):List AV->List Ty->Option (List TV×List Nat)
 | [],[]=>some ([],[])
 | c::cs,t::ts=>match eB lk t c with
  | some (x,i)=>match JK lk cs ts with
   | some (r,j)=>some (⟨t,x⟩::r,i++j)
   | none=>none
  | none=>none
 | _,_=>none
def Hw(lk:Nat->Option av)(τ:Ty):AV->Option (τ.den×List Nat)
 | .agg cs=>match τ with
  | .st s=>match JK lk cs s.nr with
   | some (l,ids)=>match s.e8 l with
    | some y=>some (y,ids)
    | none=>none
   | none=>none
  | _=>none
 | v=>eB lk τ v
mutual
def AV.JG:AV->Bool
 | .sub .. => true
 | .agg cs=>AV.nf cs
 | .gb cs=>AV.nf cs
 | .cN _ cs=>AV.nf cs
 | _=>false
def AV.nf:List AV->Bool
 | []=>false
 | v::r=>match AV.JG v with
  | true=>true
  | false=>AV.nf r
end
def AV.cR(v:AV):AV:=match v.JG with
 | true => .any
 | false=>v
def av.cR:av->av
 | .box cs => .box (cs.map AV.cR)
 | o=>o
def ag.cw(s:ag):ag:={ aw:=s.aw.map AV.cR,aH:=s.aH.map λ p=>(p.1,p.2.cR) }
def ag.iE(s:ag)(id:Nat)(τ:Ty)(xs:List τ.den):ag :=
 { s with aH:=(id, .aC τ xs)::bB id s.aH }
def ag.gone(s:ag)(id:Nat):ag :=
 let s':=s.bP id
 { s' with aH:=bB id s'.aH }
def mB(τ:Ty)(x:τ.den)(off:Nat)(u:TV):Option τ.den :=
 match τ with
 | .st s=>match (s.cells x)[off]? with
  | some v=>match decide (v.τ=u.τ) with
   | true=>s.e8 ((s.cells x).set off u)
   | false=>none
  | none=>none
 | τ=>match Nat.beq off 0 with
  | true=>u.Z9 τ
  | false=>none
def Ty.full:Ty->Ty
 | .mv t => .slice t
 | t=>t
def Ty.a4r:Ty->Ty->Bool
 | .st p, .st q=>decide (p.nr.map Ty.full=q.nr)
 | _,_=>false
def Ty.NI:Ty->Bool
 | .mv _=>true
 | t=>t.sY
def WH:TV->TV
 | ⟨.mv t,o⟩=>⟨.slice t,Option.getD (α:=List t.den) o []⟩
 | u=>u
def SS:TV->TV
 | ⟨.mv t,_⟩=>⟨.mv t,(none:Option (List t.den))⟩
 | u=>u
def yg:List TV->Prop
 | []=>True
 | ⟨.mv t,o⟩::r=>Option.isSome (α:=List t.den) o=true/\yg r
 | _::r=>yg r
def a3f(_:ag)(_:Nat)(_:Ul)(_:List AV):Option (Vc×ag):=none
def Ww:Ty->Bool
 | .slice _=>true
 | t=>t.sY
def Ki(id i sz:Nat):Nat->List TV->List AV
 | _,[]=>[]
 | j,u::us=>(match u.τ.sY with
  | true => .aN u
  | false => .sub id i j sz)::Ki id i sz (j+1) us
def Vm(s:ag)(d:Option Nat)(id i off sz:Nat)(τ aT:Ty)(xs:List aT.den):Option (Vc×ag):=match τ with
 | .st q=>match Nat.beq q.size sz&&(Nat.beq off 0&&q.nr.all Ww),TV.Z9 (.st q) ⟨aT,xs.getD i aT.zero⟩ with
  | true,some y=>some (.none,s.put d (.agg (Ki id i sz 0 (q.cells y))))
  | _,_=>none
 | _=>none
def TO(E:Env)(s:ag)(o:Oper):Option (Vc×ag) :=
 match o.op with
 | .indexAddr T x ix=>match af E.ty T with
  | some (.slice τ,_)=>match s.eval ix,s.eval x with
   | .aN ⟨.int _,n⟩, .aC id=>match s.af id with
    | some (.aC aT xs)=>match decide (aT=τ)||aT.a4r τ with
     | true=>some (.some (aB n xs.length),s.put o.dst (.eo id n.toNat 0 τ.size))
     | false=>none
    | _=>none
   | _,_=>none
  | _=>none
 | .fieldAddr T x i=>match af E.ty T with
  | some (.st n,_)=>match s.eval x with
   | .eo id k off sz=>match !n.arr&&Nat.blt i n.dc.length with
    | true=>some (.none,s.put o.dst (.eo id k (off+n.dx i) sz))
    | false=>none
   | _=>none
  | _=>none
 | .load T ad=>match af E.ty T with
  | some (
      τ,_)=>match s.eval ad with
   | .eo id i off sz=>match s.af id with
    | some (.aC aT xs)=>match TV.part ⟨aT,xs.getD i aT.zero⟩ off τ,Nat.beq aT.size sz&&(!τ.agg&&Nat.blt off aT.size) with
     | some u,true=>match τ.sY with
      | true=>some (.none,s.put o.dst (.aN u))
      | false=>some (.none,s.put o.dst (.sub id i off sz))
     | _,_=>Vm s o.dst id i off sz τ aT xs
    | _=>none
   | _=>none
  | none=>none
 | .store T ad x=>match af E.ty T with
  | some (
      τ,_)=>match s.eval ad with
   | .eo id i off sz=>match s.af id with
    | some (
        .aC aT xs)=>match Nat.beq aT.size sz&&Nat.blt off aT.size with
     | true=>match τ.sY with
      | true=>match eB (λ _=>none) τ (s.eval x) with
       | some (u,_)=>match TV.part ⟨aT,xs.getD i aT.zero⟩ off τ,mB aT (xs.getD i aT.zero) off ⟨τ,u⟩ with
        | some _,some y=>some (.none,(s.cw.iE id aT (xs.set i y)).put o.dst .any)
        | _,_=>none
       | none=>none
      | false=>match Nat.beq off 0,Hw s.af τ (s.eval x) with
       | true,some (y,ids)=>match nodupB (id::ids),TV.Z9 aT ⟨τ,y⟩ with
        | true,some y'=>some (.none,((ids.foldl ag.gone s).cw.iE id aT (xs.set i y')).put o.dst .any)
        | _,_=>none
       | _,_=>none
     | false=>none
    | _=>none
   | _=>none
  | none=>none
 | .makeSlice T l cc=>match o.dst,af E.ty T with
  | some d,some (.slice τ,b,_)=>match E.own.contains d&&(Nat.blt d 50||Nat.ble 100 d) with
   | true=>match s.eval l,s.eval cc with
    | .aN ⟨.int .i64,n⟩, .aN ⟨.int .i64,m⟩=>some (.some (dh n m b),{ aw:=(s.gone d).aw.set d (.aC d),aH:=(d, .aC τ (List.replicate n.toNat τ.zero))::(s.gone d).aH })
    | _,_=>none
   | false=>none
  | _,_=>none
 | .call c=>match c.callee with
  | .builtin .len=>match c.argTypes.toList,c.args.toList.map s.eval with
   | [T],[.aC id]=>match af E.ty T,s.af id with
    | some (.slice _,_),some (.aC _ xs)=>some (.none,s.put o.dst (.aN ⟨.int .i64,(xs.length:Int)⟩))
    | _,_=>none
   | _,_=>none
  | .value (
       .func f)=>match o.dst with
   | some d=>match E.own.contains d with
    | true=>match E.mark f with
     | some m=>a3f s d m (c.args.toList.map s.eval)
     | none=>match kx E s.af c.argTypes.toList (c.args.toList.map s.eval) with
      | some Z9=>match E.Jl f Z9 with
       | some (pre,res)=>match ((bc (100 * (d+1)) res).all λ p=>(s.af p.1).isNone)&&nodupB ((bc (100 * (d+1)) res).map (·.1)) with
        | true=>some (pre,{ aw:=s.aw.set d (jb (100 * (d+1)) res),aH:=bc (100 * (d+1)) res++s.aH })
        | false=>none
       | none=>none
      | none=>none
    | false=>none
   | none=>none
  | _=>none
 | _=>none
def bE(d:Nat):Nat:=100 * (d+1)
def DS(lk:Nat->Option av)(τ:Ty):Nat->List (Nat×AV)->Option (List τ.den×List Nat)
 | _,[]=>some ([],[])
 | n,(
    i,v)::r=>match Nat.beq i n with
  | true=>match Hw lk τ v with
   | some (x,ids)=>match DS lk τ (n+1) r with
    | some (xs,js)=>some (x::xs,ids++js)
    | none=>none
   | none=>none
  | false=>none
def ag.qs(s:ag)(d:Nat)(τ:Ty)(xs:List τ.den):ag :=
 { aw:=s.aw.set d (.aC (bE d)),aH:=(bE d, .aC τ xs)::s.aH }
def fM(E:Env)(lk:Nat->Option av):List Bool->List TypeId->List AV->Option (List (Option TV)×List Nat)
 | [],[],[]=>some ([],[])
 | true::fl,T::Ts,v::vs=>match af E.ty T with
  | some (τ,_)=>match Hw lk τ v with
   | some (x,i)=>match fM E lk fl Ts vs with
    | some (r,j)=>some (some ⟨τ,x⟩::r,i++j)
    | none=>none
   | none=>none
  | none=>none
 | false::fl,_::Ts,_::vs=>match fM E lk fl Ts vs with
  | some (r,j)=>some (none::r,j)
  | none=>none
 | _,_,_=>none
def eM(E:Env)(lk:Nat->Option av):List (Option TV)->List TypeId->List AV->Option (List Arg)
 | [],[],[]=>some []
 | some x::r,_::Ts,_::vs=>match eM E lk r Ts vs with
  | some Z9=>some (.own x::Z9)
  | none=>none
 | none::r,T::Ts,v::vs=>match Oa E lk T v with
  | some x=>match x.Hq,eM E lk r Ts vs with
   | true,some Z9=>some (x::Z9)
   | _,_=>none
  | none=>none
 | _,_,_=>none
def SG(E:Env)(s:ag)(o:Oper):Option (Vc×ag) :=
 match o.dst with
 | some d=>match E.own.contains d with
  | true=>match o.op with
   | .buildSlice T len parts=>match af E.ty T with
    | some (.slice τ,_)=>match Nat.beq parts.size len&&Nat.ble len 1000 with
     | true=>match DS s.af τ 0 (parts.toList.map λ p=>(p.1,s.eval p.2)) with
      | some (xs,ids)=>match nodupB ids,(ids.foldl ag.gone s).af (bE d) with
       | true,none=>some (.none,(ids.foldl ag.gone s).qs d τ xs)
       | _,_=>none
      | none=>none
     | false=>none
    | _=>none
   | .load T ad=>match af E.ty T,s.eval ad with
    | some (.st q,_), .eo id i 0 sz=>match s.af id with
     | some (.aC (.st p) xs)=>match Nat.beq p.size sz&&p.nr.all Ty.NI,p.e8 ((p.cells (xs.getD i (Ty.zero (.st p)))).map SS),q.e8 ((p.cells (xs.getD i (Ty.zero (.st p)))).map WH) with
      | true,some y,some z=>match ((bL (bE d) (q.cells z)).all λ e=>(s.af e.1).isNone)&&nodupB ((bL (bE d) (q.cells z)).map (·.1)) with
       | true=>some (.some (yg (p.cells (xs.getD i (Ty.zero (.st p))))),{ aw:=s.cw.aw.set d (hU (bE d) ⟨.st q,z⟩),aH:=bL (bE d) (q.cells z)++(s.cw.iE id (.st p) (xs.set i y)).aH })
       | false=>none
      | _,_,_=>none
     | _=>none
    | _,_=>none
   | .call c=>match c.callee with
    | .builtin .append=>match c.argTypes.toList with
     | [T,T']=>match Nat.beq T T',af E.ty T with
      | true,some (.slice τ,b,_)=>match c.args.toList.map s.eval with
       | [x,y]=>match eB s.af (.slice τ) x,eB s.af (.slice τ) y with
        | some (xs,i),some (ys,j)=>match nodupB (i++j),((i++j).foldl ag.gone s).af (bE d) with
         | true,none=>some (.some (bz (xs.length+ys.length) b),((i++j).foldl ag.gone s).qs d τ (xs++ys))
         | _,_=>none
        | _,_=>none
       | _=>none
      | _,_=>none
     | _=>none
    | .value (
         .func f)=>match E.tk f with
     | []=>none
     | fl=>match fM E s.af fl c.argTypes.toList (c.args.toList.map s.eval) with
      | some (own,ids)=>match nodupB ids,eM E (ids.foldl ag.gone s).af own c.argTypes.toList (c.args.toList.map (ids.foldl ag.gone s).eval) with
       | true,some Z9=>match E.Jl f Z9 with
        | some (pre,res)=>match ((bc (bE d) res).all λ p=>((ids.foldl ag.gone s).af p.1).isNone)&&nodupB ((bc (bE d) res).map (·.1)) with
         | true=>some (pre,{ aw:=(ids.foldl ag.gone s).aw.set d (jb (bE d) res),aH:=bc (bE d) res++(ids.foldl ag.gone s).aH })
         | false=>none
        | none=>none
       | _,_=>none
      | none=>none
    | _=>none
   | _=>none
  | false=>none
 | none=>none
def ie:List (Option Nat)->List AV->List (Nat×Nat)->Option (List (Nat×Nat))
 | [],[],m=>some m
 | some k::fl,v::vs,m=>match v with
  | .ptr id 0=>match af m k with
   | some i=>match Nat.beq i id with
    | true=>ie fl vs m
    | false=>none
   | none=>ie fl vs ((k,id)::m)
  | _=>none
 | none::fl,_::vs,m=>ie fl vs m
 | _,_,_=>none
def cO(lk:Nat->Option av):List CK->List AV->List (Nat×Nat)->Option (List TV×List Nat×List (Nat×Nat))
 | [],[],m=>some ([],[],m)
 | .d τ::ks,v::vs,m=>match iH (λ _=>none) τ v,τ.agg with
  | some x,false=>match cO lk ks vs m with
   | some (ds,ids,m)=>some (⟨τ,x⟩::ds,ids,m)
   | none=>none
  | _,_=>none
 | .o τ::ks,v::vs,m=>match eB lk τ v,τ.agg with
  | some (x,i),false=>match cO lk ks vs m with
   | some (ds,ids,m)=>some (⟨τ,x⟩::ds,i++ids,m)
   | none=>none
  | _,_=>none
 | .p j::ks,v::vs,m=>match v with
  | .ptr id 0=>match af m j with
   | some i=>match Nat.beq i id with
    | true=>cO lk ks vs m
    | false=>none
   | none=>cO lk ks vs ((j,id)::m)
  | _=>none
 | _,_,_=>none
def gS(lk:Nat->Option av):List (List CK)->Nat->List (Nat×Nat)->Option (List (List TV)×List Nat×List (Nat×Nat))
 | [],_,m=>some ([],[],m)
 | ks::sh,k,m=>match af m k with
  | some id=>match lk id with
   | some (.box cs)=>match cO lk ks cs m with
    | some (ds,i,m)=>match gS lk sh (k+1) m with
     | some (bu,ids,m)=>some (ds::bu,i++ids,m)
     | none=>none
    | none=>none
   | _=>none
  | none=>none
def Xn(lk:Nat->Option av)(ids:List Nat)(id:Nat):Option av:=match ids.contains id with
 | true=>none
 | false=>match lk id with
  | some (.box cs)=>some (.box cs)
  | _=>none
def Iq(sh:List (List CK)):Bool:=sh.all λ ks=>ks.all λ k=>match k with
 | .d (.slice _)=>false
 | .d (.mv _)=>false
 | _=>true
def ZB(sh:List (List CK))(lk:Nat->Option av)(ids:List Nat)(id:Nat):Option av:=match Iq sh with
 | true=>match ids.contains id with
  | true=>none
  | false=>lk id
 | false=>Xn lk ids id
def qc(E:Env)(lk:Nat->Option av):List (Option Nat)->List TypeId->List AV->Option (List Arg)
 | [],[],[]=>some []
 | some k::fl,_::Ts,_::vs=>match qc E lk fl Ts vs with
  | some r=>some (.box k::r)
  | none=>none
 | none::fl,T::Ts,v::vs=>match Oa E lk T v with
  | some x=>match qc E lk fl Ts vs with
   | some r=>some (x::r)
   | none=>none
  | none=>none
 | _,_,_=>none
def bN(m:List (Nat×Nat)):List CK->List AV->List TV->Nat->Option (List AV×List (Nat×av)×Nat)
 | [],[],[],n=>some ([],[],n)
 | .d τ::ks,_::cs,v::ds,n=>match decide (v.τ=τ) with
  | true=>match bN m ks cs ds n with
   | some (r,os,n)=>some (.aN v::r,os,n)
   | none=>none
  | false=>none
 | .o τ::ks,_::cs,v::ds,n=>match decide (v.τ=τ) with
  | true=>match bN m ks cs ds (n+1) with
   | some (r,os,n')=>some (jn n v::r,eU n v++os,n')
   | none=>none
  | false=>none
 | .p j::ks,c::cs,ds,n=>match c with
  | .ptr id 0=>match af m j with
   | some i=>match Nat.beq i id,bN m ks cs ds n with
    | true,some (r,os,n)=>some (.ptr id 0::r,os,n)
    | _,_=>none
   | none=>none
  | _=>none
 | _,_,_,_=>none
def pW(lk:Nat->Option av)(m:List (Nat×Nat)):List (List CK)->Nat->List (List TV)->Nat->Option (List (Nat×av)×List (Nat×av))
 | [],_,[],_=>some ([],[])
 | ks::sh,k,ds::bu,n=>match af m k with
  | some id=>match lk id with
   | some (.box cs)=>match bN m ks cs ds n with
    | some (r,os,n)=>match pW lk m sh (k+1) bu n with
     | some (bs,ts)=>some ((id, .box r)::bs,os++ts)
     | none=>none
    | none=>none
   | _=>none
  | none=>none
 | _,_,_,_=>none
def fJ:List Nat->List (Nat×av)->List (Nat×av)
 | [],os=>os
 | id::r,os=>fJ r (bB id os)
def T4(E:Env)(s:ag)(o:Oper):Option (Vc×ag) :=
 match o.dst with
 | some d=>match o.op with
  | .call c=>match c.callee with
   | .value (
        .func f)=>match E.sk f with
    | some sk=>match ie sk.ps (c.args.toList.map s.eval) [] with
     | some m0=>match gS s.af sk.sh 0 m0 with
      | some (
          bu,ids,m)=>match nodupB ids&&(nodupB (m.map (·.1))&&(nodupB (m.map (·.2))&&Nat.beq m.length sk.sh.length)) with
       | true=>match qc E (ZB sk.sh (ids.foldl ag.gone s).af (m.map (·.2))) sk.ps c.argTypes.toList (c.args.toList.map (ids.foldl ag.gone s).eval) with
        | some Z9=>match E.Se f Z9 bu with
         | some (pre,res,dw)=>match pW (ids.foldl ag.gone s).af m sk.sh 0 dw (bE d+60) with
          | some (bs,ts)=>match ((bc (bE d) res++ts).all λ p=>((ids.foldl ag.gone s).af p.1).isNone)&&nodupB ((bc (bE d) res++ts).map (·.1)) with
           | true=>some (pre,{ aw:=(ids.foldl ag.gone s).aw.set d (jb (bE d) res),aH:=bs++(bc (bE d) res++ts)++fJ (m.map (·.2)) (ids.foldl ag.gone s).aH })
           | false=>none
          | none=>none
         | none=>none
        | none=>none
       | false=>none
      | none=>none
     | none=>none
    | none =>
      none
   | _=>none
  | _=>none
 | none=>none
def known(v:AV)(K:Prop):Prop :=
 match v with
 | .aN ⟨.int .i64,n⟩=>ai n->K
 | .aN ⟨.slice _,xs⟩=>xs.length<=140737488355328->K
 | .aN ⟨.str,xs⟩=>xs.length<=140737488355328->K
 | _=>K
def Qy:Op->Bool
 | .load .. | .field .. | .index .. | .extract .. => true
 | .call c=>match c.callee with
  | .builtin .append=>false
  | _=>true
 | _=>false
def rf:Option Nat->Bool
 | none=>true
 | some d=>Nat.blt d 400000
def AV.stays:AV->Bool
 | .aN v=>match v.τ with
  | .ptr=>false
  | _=>true
 | .cS _=>true
 | _=>false
def a7u:Bool×TV->AV
 | (true,v) => .cS v
 | (false,v) => .aN v
def TM(E:Env)(s:ag)(o:Oper):Option (Vc×AV×Option av):=match o.op with
 | .call c=>match c.callee with
  | .value (.func f)=>match o.dst with
   | some d=>match kx E (qm s.af) c.argTypes.toList (c.args.toList.map s.eval) with
    | some Z9=>match E.PT f Z9 with
     | some (pre, .box cells)=>some (pre, .ptr d 0,some (.box (cells.map .aN)))
     | some (pre, .row e τ xs)=>some (pre, .row d,some (.row e τ xs))
     | some (pre, .res l)=>match (c.args.toList.map s.eval).all AV.stays with
      | true=>some (pre, .gb (l.map a7u),none)
      | false=>none
     | none=>none
    | none=>none
   | none=>none
  | _=>none
 | _=>none
def jC(E:Env)(o:Oper)(K:ag->Prop)(s:ag):Prop :=
 match rf o.dst with
 | false=>False
 | true =>
 let s:=(ju E s o).foldl ag.freeze s;match T4 E s o with
 | some (vc,s')=>vc.and (K s')
 | none=>match SG E s o with
 | some (vc,s')=>vc.and (K s')
 | none=>match SU E s o with
 | some (vc,s')=>vc.and (K s')
 | none=>match TO E s o with
 | some (vc,s')=>vc.and (K s')
 | none=>match TM E s o with
 | some (vc,v,ob)=>vc.and (K (s.lay o.dst v ob))
 | none=>match Hi E s.af s.eval o with
  | some (vc,v,ob)=>vc.and (match Qy o.op with
   | true=>known v (K (s.lay o.dst v ob))
   | false=>K (s.lay o.dst v ob))
  | none=>False
def uE(ops:Array Oper)(g:Nat):Option Nat:=(ops[g]?).bind (·.dst)
def eD(
      E:Env) (ops:Array Oper):List Oper->List (Nat×Bool)->(ag->Prop)->ag->Prop
 | [],_,Q,s=>Q s
 | o::r,kn,Q,s=>match o.guard with
  | none=>jC E o (eD E ops r kn Q) s
  | some (
      g,want)=>match uE ops g with
   | none=>False
   | some t=>match af kn t with
    | some b=>match s.eval (.tmp t) with
     | .aN ⟨.bool,b'⟩=>match b' == b,b == want with
      | true,true=>jC E o (eD E ops r kn Q) s
      | true,false=>eD E ops r kn Q (s.put o.dst .dR)
      | false,_=>False
     | .dR=>eD E ops r kn Q (s.put o.dst .dR)
     | _=>False
    | none=>match s.eval (.tmp t) with
     | .aN ⟨.bool,b⟩ =>
      (b=want->jC E o (eD E ops r ((t,want)::kn) Q) (s.put (some t) (.aN ⟨.bool,want⟩))) /\
      (b = !want->eD E ops r ((t,!want)::kn) Q ((s.put (some t) (.aN ⟨.bool,!want⟩)).put o.dst .dR))
     | .dR=>eD E ops r kn Q (s.put o.dst .dR)
     | _=>False
def tu(acc:List Nat)(s:Nat)(e:Edge):Nat :=
 match Region.binds .any e with
 | true=>s ||| (1 <<< e.on ||| acc.getD e.on 0)
 | false=>s
def bG:List Oper->List Nat->List Nat
 | [],acc=>acc
 | o::r,acc=>bG r (acc++[o.after.toList.foldl (tu acc) 0])
def mC:List Nat->Nat->Nat->Nat
 | [],_,m=>m
 | b::r,i,m=>match Nat.beq (b+1) (2 ^ i) with
  | true=>mC r (i+1) m
  | false=>mC r (i+1) (i+1)
def cf(ops:List Oper)(k:Nat):Option Nat:=(ops[k]?).bind (·.dst)
def hidden(ops:List Oper)(m bits t:Nat):Bool:=(List.range m).any λ k=>match cf ops k with
 | some d=>match Nat.beq d t with
  | true => !Nat.testBit bits k
  | false=>false
 | none=>false
def QN(ops:List Oper)(m bits:Nat)(s:ag):Operand->AV
 | .tmp t=>match hidden ops m bits t with
  | true => .any
  | false=>s.eval (.tmp t)
 | x=>s.eval x
def Nn(ops:List Oper)(m bits:Nat)(s:ag)(id:Nat):Option av:=match hidden ops m bits id with
 | true=>none
 | false=>s.af id
def ub:Op->Bool
 | .alloc _ | .box .. | .buildSlice .. | .makeSlice .. | .makeMap .. => true
 | .call c=>match c.callee with
  | .builtin .append=>true
  | _=>false
 | _=>false
def ag.fresh(s:ag)(o:Oper):ag :=
 match ub o.op,o.dst with
 | true,some d=>let s':=s.bP d
  { s' with aH:=bB d s'.aH }
 | _,_=>s
def ag.iy(s:ag)(d:Option Nat)(v:AV)(o:Option av):ag :=
 match d with
 | some d=>{ aw:=s.aw.set d v,aH:=match o with
  | some o=>(d,o)::s.aH
  | none=>s.aH }
 | none=>s
def Jy(E:Env)(ops:List Oper)(m bits:Nat)(o:Oper)(K:ag->Prop)(s:ag):Prop :=
 match ju E s o with
 | []=>match Hi E (Nn ops m bits s) (QN ops m bits s) o with
  | some (vc,v,ob)=>vc.and (K (s.iy o.dst v ob))
  | none=>False
 | _=>False
def kM(
      E:Env) (ops:List Oper) (m:Nat) (bM:List Nat):Nat->List Oper->List (Nat×Bool)->(List (Nat×Bool)->ag->Prop)->ag->Prop
 | _,[],kn,Q,s=>Q kn s
 | i,o::r,kn,Q,s=>match o.guard with
  | none=>Jy E ops m (bM.getD i 0) o (kM E ops m bM (i+1) r kn Q) s
  | some (
      g,want)=>match cf ops g,Nat.testBit (bM.getD i 0) g with
   | some t,true=>match af kn t with
    | some b=>match s.eval (.tmp t) with
     | .aN ⟨.bool,b'⟩=>match b' == b,b == want with
      | true,true=>Jy E ops m (bM.getD i 0) o (kM E ops m bM (i+1) r kn Q) s
      | true,false=>kM E ops m bM (i+1) r kn Q (s.put o.dst .dR)
      | false,_=>False
     | .dR=>kM E ops m bM (i+1) r kn Q (s.put o.dst .dR)
     | _=>False
    | none=>match s.eval (.tmp t) with
     | .aN ⟨.bool,b⟩ =>
      (b=want->Jy E ops m (bM.getD i 0) o (kM E ops m bM (i+1) r ((t,want)::kn) Q) (s.put (some t) (.aN ⟨.bool,want⟩))) /\
      (b = !want->kM E ops m bM (i+1) r ((t,!want)::kn) Q ((s.put (some t) (.aN ⟨.bool,!want⟩)).put o.dst .dR))
     | .dR=>kM E ops m bM (i+1) r kn Q (s.put o.dst .dR)
     | _=>False
   | _,_=>False
def distinct:List (Option Nat)->Bool
 | []=>true
 | none::_=>false
 | some d::r=>match r.any λ x=>match x with
   | some e=>Nat.beq d e
   | none=>false with
  | true=>false
  | false=>distinct r
def backward(ops:List Oper):Bool:=(List.range ops.length).all λ i=>match ops[i]? with
 | some o=>o.after.toList.all λ e=>match Region.binds .any e with
  | true=>Nat.blt e.on i
  | false=>true
 | none=>true
def tw(ops:List Oper)(s:ag)(K:Prop):Prop :=
 match ops with
 | []=>K
 | o::r=>match Qy o.op,o.dst with
  | true,some d=>known (s.aw.getD d .any) (tw r s K)
  | _,_=>tw r s K
def Po(bM:List Nat)(p:Nat):Bool:=(bM.drop p).all λ b=>Nat.beq (b % 2 ^ p) (2 ^ p - 1)
def SJ(bM:List Nat):List Nat->List Nat
 | []=>[]
 | p::r=>match Po bM p with
  | true=>p::SJ bM r
  | false=>SJ bM r
def ud:List (Option Nat)->Bool
 | []=>true
 | none::r=>ud r
 | some d::r=>match r.any λ x=>match x with
   | some e=>Nat.beq d e
   | none=>false with
  | true=>false
  | false=>ud r
def CQ(l:List Oper)(lo hi:Nat):Bool :=
 ((
  (l.take hi).drop lo).all λ o=>rf o.dst)&&ud (((l.take hi).drop lo).map (·.dst))&&(l.take lo).all λ o=>match o.dst with
  | none=>true
  | some d => !(((l.take hi).drop lo).any λ p=>match p.dst with
   | some e=>Nat.beq d e
   | none=>false)
def Oper.alone(E:Env)(o:Oper):Bool:=match o.op with
 | .store .. | .mapUpdate .. | .insert .. => true
 | _=>match o.dst with
  | some d=>E.own.contains d
  | none=>false
def vM(u v:TV):Prop:=match u.Z9 v.τ with
 | some x=>x=v.x
 | none=>False
def TP:Op->Option (List Operand)
 | .move x | .assign x | .nilCheck x | .fieldAddr _ x _ | .load _ x | .box _ x | .extract x _=>some [x]
 | .indexAddr _ x i | .store _ x i | .lookup _ x i _=>some [x,i]
 | .mapUpdate _ m k x | .insert _ m k x=>some [m,k,x]
 | .makeMap _ none=>some []
 | .alloc _=>some []
 | .binOp _ _ x y _=>some [x,y]
 | .build _ ps=>some (ps.toList.map (·.2))
 | .buildSlice _ _ ps=>some (ps.toList.map (·.2))
 | .call c=>match c.callee with
  | .value f=>some (f::c.args.toList)
  | .builtin _=>some c.args.toList
  | _=>none
 | .pick c x y=>some [c,x,y]
 | .slice _ x l h m=>some (x::(l.toList++(h.toList++m.toList)))
 | _=>none
def fu(D:List Nat)(o:Oper):Bool:=match TP o.op with
 | some l=>l.all λ x=>match x with
  | .tmp t => !D.contains t
  | _=>true
 | none=>false
def reads:Op->Bool
 | .move _ | .nilCheck _ | .fieldAddr .. | .load .. | .indexAddr .. => true
 | _=>false
def Zy(E:Env)(s:ag)(o:Oper):Option (Vc×AV):=match reads o.op with
 | true=>match Hi E s.af s.eval o with
  | some (vc,v,none)=>some (vc,v)
  | _=>none
 | false=>none
def HQ:AV->AV->Prop
 | .aN v, .aN u=>vM v u
 | .cS v, .cS u=>vM v u
 | .aC i, .aC j=>i=j
 | .row i, .row j=>i=j
 | .ptr i p, .ptr j q=>i=j/\p=q
 | .nil, .nil=>True
 | .dR, .dR=>True
 | _,_=>False
def Od:List AV->List AV->Prop
 | [],[]=>True
 | a::Z9,b::bs=>HQ a b/\Od Z9 bs
 | _,_=>False
def SD(a b:AV):Prop:=match a,b with
 | .agg Z9, .agg bs=>Od Z9 bs
 | a,b=>HQ a b
def fS(E:Env):List (Nat×Oper)->ag->Prop->Prop
 | [],_,K=>K
 | r::rs,s,K=>match r.2.dst,Zy E s r.2 with
  | some d,some (vc,v)=>vc.and (SD v (s.aw.getD d .any)/\fS E rs s K)
  | _,_=>False
def HR(E:Env):List (Nat×Oper)->(ag->Prop)->ag->Prop
 | [],K,s=>K s
 | r::rs,K,s=>match r.2.dst,Zy E s r.2 with
  | some d,some (vc,v)=>vc.and (known v (HR E rs K (s.put (some d) v)))
  | _,_=>False
def dstsOf(R:List (Nat×Oper)):List Nat:=R.filterMap λ r=>r.2.dst
def mg:Op->Bool
 | .alloc _=>true
 | _=>false
def iW:Op->Bool
 | .extract .. => true
 | _=>false
def tg:Op->Bool
 | .buildSlice _ len ps=>Nat.beq len 0&&Nat.beq ps.size 0
 | _=>false
def DM(E:Env)(o:Oper):Bool:=match o.dst with
 | some d=>E.ro.contains d
 | none=>false
def df(E:Env)(o:Oper):Bool:=mg o.op||(iW o.op||(tg o.op&&DM E o))
def qk(E:Env)(X:List (Nat×Oper)):List Nat:=X.filterMap λ x=>match df E x.2 with
 | true=>x.2.dst
 | false=>none
def wy(s:ag):Op->Bool
 | .extract t i=>match s.eval t with
  | .gb vs=>Nat.blt i vs.length
  | _=>false
 | _=>true
def TH(E:Env)(bM:List Nat)(X:List (Nat×Oper))(s:ag):Bool:=X.all λ e=>wy s e.2.op||X.any λ y => !df E y.2&&Nat.testBit (bM.getD e.1 0) y.1
def IX(bM:List Nat)(x:Nat×Oper):List (Nat×Oper)->List (Nat×Oper)
 | []=>[x]
 | y::ys=>match Nat.testBit (bM.getD y.1 0) x.1 with
  | true=>x::y::ys
  | false=>y::IX bM x ys
def G7(E:Env)(bM:List Nat):List (Nat×Oper)->List (Nat×Oper)
 | []=>[]
 | x::xs=>match df E x.2 with
  | true=>IX bM x (G7 E bM xs)
  | false=>x::G7 E bM xs
def nL(E:Env)(o:Oper):Bool:=match o.op with
 | .alloc T=>o.dst.isSome&&(rf o.dst&&(af E.ty T).isSome)
 | .extract .. => o.dst.isSome
 | .buildSlice T len ps => !(Nat.beq len 0&&Nat.beq ps.size 0&&DM E o)||(match o.dst,af E.ty T with
  | some d,some (.slice _,_)=>Nat.blt d 400000&&(E.ro.contains d && !E.own.contains d)
  | _,_=>false)
 | _=>true
def Oq(E:Env)(bM:List Nat)(X:List (Nat×Oper))(y:Nat×Oper):Bool := !df E y.2&&X.all λ z=>df E z.2 || !Nat.testBit (bM.getD y.1 0) z.1
def yy(p:Nat×Oper->Bool)(f:Nat×Oper->Prop):List (Nat×Oper)->Prop
 | []=>True
 | y::ys=>match p y with
  | true=>f y/\yy p f ys
  | false=>yy p f ys
def gm(E:Env)(bM:List Nat):Nat->List (Nat×Oper)->List (Nat×Oper)->(ag->Prop)->ag->Prop
 | 0,_,X,K,s=>match X with
  | []=>K s
  | _::_=>False
 | n+1,R,X,K,s=>match X with
  | []=>K s
  | x::xs=>match TH E bM (x::xs) s with
   | true=>match fu (dstsOf (R.filter λ r => !Nat.testBit (bM.getD x.1 0) r.1)++qk E xs) x.2&&xs.all λ y=>df E y.2||Nat.testBit (bM.getD y.1 0) x.1 with
    | true=>jC E x.2 (λ s'=>fS E (R.filter λ r => !Nat.testBit (bM.getD x.1 0) r.1) s' (gm E bM n (R.filter λ r => !Nat.testBit (bM.getD x.1 0) r.1) xs K s')) s
    | false=>match df E x.2 with
     | true=>False
     | false=>yy (Oq E bM (x::xs)) (λ y=>match fu (dstsOf (R.filter λ r => !Nat.testBit (bM.getD y.1 0) r.1)++qk E ((x::xs).filter λ z => !Nat.beq z.1 y.1)) y.2 with
      | true=>jC E y.2 (λ s'=>fS E (R.filter λ r => !Nat.testBit (bM.getD y.1 0) r.1) s' (gm E bM n (R.filter λ r => !Nat.testBit (bM.getD y.1 0) r.1) ((x::xs).filter λ z => !Nat.beq z.1 y.1) K s')) s
      | false=>False) (x::xs)
   | false=>False
def jR:Nat->List Oper->List (Nat×Oper)
 | _,[]=>[]
 | i,o::r=>(i,o)::jR (i+1) r
def Jv(E:Env)(o:Oper):Bool:=reads o.op&&(match o.dst with
 | some d => !E.own.contains d
 | none=>true)
def lC(E:Env)(bM:List Nat)(eH:List (Nat×Oper))(r:Nat×Oper):Bool :=
 Jv E r.2&&eH.all λ y=>Jv E y.2 || !Nat.testBit (bM.getD r.1 0) y.1
def a1y(E:Env)(bM:List Nat)(eH:List (Nat×Oper)):Bool :=
 (eH.all λ r=>r.2.guard.isNone&&nL E r.2)&&eH.all λ r => !(lC E bM eH r||iW r.2.op)||fu (dstsOf (eH.filter λ y => !Nat.testBit (bM.getD r.1 0) y.1)++bif iW r.2.op then qk E eH else []) r.2
def XV(E:Env)(bM:List Nat)(eH:List (Nat×Oper))(K:ag->Prop)(s:ag):Prop :=
 match a1y E bM eH with
 | true=>HR E (eH.filter (lC E bM eH)) (λ s'=>fS E (eH.filter (lC E bM eH)) s' (gm E bM eH.length (eH.filter (lC E bM eH)) (G7 E bM (eH.filter λ r => !lC E bM eH r)) K s')) s
 | false=>False
def tU(E:Env)(ops:Array Oper)(l:List Oper)(bM:List Nat):List Nat->Nat->List (Nat×Bool)->(ag->Prop)->ag->Prop
 | [],lo,_,Q,s=>match Nat.beq lo l.length with
  | true=>Q s
  | false=>False
 | hi::r,lo,kn,Q,s=>match Po bM hi&&(Po bM lo&&(Nat.blt lo hi&&Nat.ble hi l.length)) with
  | true=>match Nat.beq hi (lo+1) with
   | true=>eD E ops ((l.take hi).drop lo) kn (tU E ops l bM r hi kn Q) s
   | false=>match CQ l lo hi,((l.take hi).drop lo).any (Oper.alone E) with
    | true,true=>XV E bM (jR lo ((l.take hi).drop lo)) (tU E ops l bM r hi kn Q) s
    | true,false=>kM E l hi bM lo ((l.take hi).drop lo) kn (λ kn s=>tw ((l.take hi).drop lo) s (tU E ops l bM r hi kn Q s)) (((l.take hi).drop lo).foldl ag.fresh s)
    | false,_=>False
  | false=>False
def Og(E:Env)(ops:Array Oper)(Q:ag->Prop)(s:ag):Prop :=
 let l:=ops.toList
 let bM:=bG l []
 let m:=mC bM 0 0
 match ((l.take m).all λ o=>rf o.dst)&&(distinct ((l.take m).map (·.dst))&&backward l) with
 | true=>kM E l m bM 0 (l.take m) [] (λ kn s=>tw (l.take m) s (eD E ops (l.drop m) kn Q s)) ((l.take m).foldl ag.fresh s)
 | false=>False
def J4(E:Env)(ops:Array Oper)(Q:ag->Prop)(s:ag):Prop :=
 let l:=ops.toList
 let bM:=bG l []
 match (l.take (mC bM 0 0)).any (Oper.alone E) with
 | false=>Og E ops Q s
 | true=>match backward l with
  | true=>tU E ops l bM (SJ bM ((List.range l.length).map (·+1))) 0 [] Q s
  | false=>False
def Ut(E:Env)(ops:Array Oper)(Q:ag->Prop)(s:ag):Prop:=J4 E ops Q s
inductive aJ:Type 1 where
 | none
 | mk (ι:Type) (P:ι->Prop) (μ:ι->Nat) (fz dead:List Nat) (ins:ι->List (Nat×AV)) (aL:List Nat) (os:ι->List (Nat×av)) (Sa ren:List (Nat×Nat)) (sub:ι->Nat->aJ)
def aJ.a(ι:Type)(P:ι->Prop)(μ:ι->Nat)(dead:List Nat)(ins:ι->List (Nat×AV))(aL:List Nat)(os:ι->List (Nat×av)):aJ := .mk ι P μ [] dead ins aL os [] [] λ _ _ => .none
def aJ.b(ι:Type)(P:ι->Prop)(μ:ι->Nat)(dead:List Nat)(ins:ι->List (Nat×AV)):aJ := .mk ι P μ [] dead ins [] (λ _=>[]) [] [] λ _ _ => .none
def aJ.u(P:Prop)(dead:List Nat)(ins:List (Nat×AV))(aL:List Nat)(os:List (Nat×av))(sub:Nat->aJ):aJ := .mk Unit (λ _=>P) (λ _=>0) [] dead (λ _=>ins) aL (λ _=>os) [] [] λ _=>sub
def eA(k:Nat)(X:aJ)(r:Nat->aJ)(z:Nat):aJ:=match Nat.beq z k with
 | true=>X
 | false=>r z
def cj:Nat->aJ:=λ _ => .none
def Code.zI:Code->List Nat
 | .region _ ops _=>ops.toList.filterMap (·.dst)
 | .seq a b=>Code.zI a++Code.zI b
 | .cond _ a b=>Code.zI a++Code.zI b
 | .block _ c=>Code.zI c
 | .loop c=>Code.zI c
 | .scope c=>Code.zI c
 | _=>[]
def Code.first:Code->Option Nat
 | .region id _ _=>some id
 | .seq a _=>Code.first a
 | .block _ c=>Code.first c
 | .loop c=>Code.first c
 | .cond _ a _=>Code.first a
 | .ret=>some 500000
 | _=>none
def Code.a3c(Λ:Nat->aJ)(b:Code):aJ:=match Code.first b with
 | some r=>Λ (r+100000)
 | none => .none
def Yy(sl:List AV):List (Nat×AV)->List AV
 | []=>sl
 | (t,v)::r=>Yy (sl.set t v) r
def KK(aL:List Nat):List (Nat×av)->List (Nat×av)
 | []=>[]
 | (k,o)::r=>match aL.contains k with
  | true=>(k,o)::KK aL r
  | false=>KK aL r
def pI(s:ag)(zI:List Nat)(ins:List (Nat×AV))(aL:List Nat)(os:List (Nat×av)):ag :=
 { aw:=Yy (zI.foldl (λ l t=>l.set t .any) s.aw) ins,aH:=os++KK aL s.aH }
def cY(ρ:List (Nat×Nat))(id:Nat):Nat:=match af ρ id with
 | some k=>k
 | none=>id
def isRow:Option av->Bool
 | some (.row ..)=>true
 | _=>false
def fw:Option av->Bool
 | some (.box _)=>true
 | _=>false
def GZ:Option av->Bool
 | some (.map _)=>true
 | _=>false
def AV.sG(ρ:List (Nat×Nat))(s t:ag)(a b:AV):Prop :=
 match b with
 | .any=>True
 | .aN v=>match a with
  | .aN u=>vM u v
  | .nil=>match v with
   | ⟨.slice _,xs⟩=>xs=[]
   | _=>False
  | _=>False
 | .nil=>match a with
  | .nil=>True
  | _=>False
 | .cS v=>match a with
  | .cS u=>vM u v
  | _=>False
 | .ptr id off=>match a with
  | .ptr i o=>match Nat.beq i (cY ρ id)&&Nat.beq o off&&fw (t.af id) with
   | true=>True
   | false=>False
  | _=>False
 | .row id=>match a with
  | .row i=>match Nat.beq i (cY ρ id)&&isRow (t.af id) with
   | true=>True
   | false=>False
  | .nil=>match isRow (t.af id),s.af (cY ρ id) with
   | true,Option.none=>True
   | _,_=>False
  | _=>False
 | .aC id=>match a with
  | .aC i=>match Nat.beq i (cY ρ id)&&cP (t.af id) with
   | true=>True
   | false=>False
  | .nil=>match cP (t.af id),s.af (cY ρ id) with
   | true,Option.none=>True
   | _,_=>False
  | _=>False
 | .fn f=>match a with
  | .fn g=>match Nat.beq f g with
   | true=>True
   | false=>False
  | _=>False
 | .mp id=>match a with
  | .mp i=>match Nat.beq i (cY ρ id)&&GZ (t.af id) with
   | true=>True
   | false=>False
  | _=>False
 | _=>False
def Fm(ρ:List (Nat×Nat))(s t:ag):List AV->List AV->Prop
 | [],[]=>True
 | a::Z9,b::bs=>match b with
  | .any=>Fm ρ s t Z9 bs
  | b=>AV.sG ρ s t a b/\Fm ρ s t Z9 bs
 | _,_=>False
def AV.a3V(ρ:List (Nat×Nat))(s t:ag)(a b:AV):Prop :=
 match a,b with
 | .agg Z9, .agg bs=>Fm ρ s t Z9 bs
 | a,b=>AV.sG ρ s t a b
def UI(ρ:List (Nat×Nat))(s t:ag):List AV->List AV->Prop
 | [],[]=>True
 | a::Z9,b::bs=>match b with
  | .any=>UI ρ s t Z9 bs
  | b=>AV.a3V ρ s t a b/\UI ρ s t Z9 bs
 | _,_=>False
def X9(u v:FV):Prop:=match u.Z9 v.ps v.r with
 | some F=>F=v.F
 | none=>False
def AV.fit(ρ:List (Nat×Nat))(s t:ag)(a b:AV):Prop :=
 match a,b with
 | .cN f Z9, .cN g bs=>match Nat.beq f g with
  | true=>UI ρ s t Z9 bs
  | false=>False
 | .gv u, .gv v=>X9 u v
 | .agg Z9, .agg bs=>Fm ρ s t Z9 bs
 | .agg Z9, .aN v=>match qt (λ _=>none) v.τ (.agg Z9) with
  | some x=>x=v.x
  | none=>False
 | a,b=>AV.sG ρ s t a b
def yD(ρ:List (Nat×Nat))(s t:ag):List AV->List AV->Prop
 | [],[]=>True
 | a::Z9,b::bs=>match b with
  | .any=>yD ρ s t Z9 bs
  | b=>AV.fit ρ s t a b/\yD ρ s t Z9 bs
 | _,_=>False
def toO(x:J):mD:=⟨x.ah,x.bl,some x.ae⟩
def Ud(aT:Ty)(ys:List aT.den)(τ:Ty)(xs:List τ.den):Prop :=
 match decide (τ = .st .oExpr),decide (aT = .st .expr) with
 | true,true=>vM ⟨.slice (.st .oExpr),((show Option (List J) from TV.Z9 (.slice (.st .expr)) ⟨.slice aT,ys⟩).getD []).map toO⟩ ⟨.slice τ,xs⟩
 | _,_=>vM ⟨.slice aT,ys⟩ ⟨.slice τ,xs⟩
def Xg(a b:MV):Prop:=match a.Z9 b.κ b.ε with
 | some (f,n)=>f=b.f/\n=b.n
 | none=>False
def jh(ρ:List (Nat×Nat))(s t:ag):List (Nat×av)->Prop
 | []=>True
 | (id, .box bs)::r=>match s.af (cY ρ id) with
  | some (.box Z9)=>Fm ρ s t Z9 bs/\jh ρ s t r
  | _=>False
 | (id, .row e τ xs)::r=>match s.af (cY ρ id) with
  | some (.row e' aT ys)=>match Nat.beq e e' with
   | true=>vM ⟨.slice aT,ys⟩ ⟨.slice τ,xs⟩/\jh ρ s t r
   | false=>False
  | Option.none=>xs=[]/\jh ρ s t r
  | _=>False
 | (id, .aC τ xs)::r=>match s.af (cY ρ id) with
  | some (.aC aT ys)=>Ud aT ys τ xs/\jh ρ s t r
  | Option.none=>xs=[]/\jh ρ s t r
  | _=>False
 | (id, .map m)::r=>match s.af (cY ρ id) with
  | some (.map m')=>Xg m' m/\jh ρ s t r
  | _=>False
def Fits(ρ:List (Nat×Nat))(s t:ag):Prop :=
 match (nodupB (t.aH.map (·.1))&&nodupB (t.aH.map λ p=>cY ρ p.1))&&t.aH.all (λ p=>Nat.blt p.1 50||(Nat.ble 100 p.1||(Nat.beq (cY ρ p.1) p.1&&cP (s.af p.1))))&&t.aH.all (λ p=>Nat.blt p.1 400000||(!fw (some p.2)||(Nat.beq (cY ρ p.1) p.1&&fw (s.af p.1)))) with
 | true=>yD ρ s t s.aw t.aw/\jh ρ s t t.aH
 | false=>False
def a1G(ρ:List (Nat×Nat))(a b:AV):List (Nat×Nat):=match b with
 | .aC k=>match a with
  | .aC i=>match Nat.beq i (cY ρ k) with
   | true=>[]
   | false=>[(k,i)]
  | _=>[]
 | _=>[]
def Xq(ρ:List (Nat×Nat)):List AV->List AV->List (Nat×Nat)
 | a::Z9,b::bs=>a1G ρ a b++Xq ρ Z9 bs
 | _,_=>[]
def a5H(ρ:List (Nat×Nat))(a b:AV):List (Nat×Nat):=match b with
 | .agg bs=>match a with
  | .agg Z9=>Xq ρ Z9 bs
  | _=>[]
 | b=>a1G ρ a b
def P7(ρ:List (Nat×Nat)):List AV->List AV->List (Nat×Nat)
 | a::Z9,b::bs=>a5H ρ a b++P7 ρ Z9 bs
 | _,_=>[]
def Ei(ρ:List (Nat×Nat))(s:ag):List (Nat×av)->List (Nat×Nat)
 | []=>[]
 | (id, .box bs)::r=>match s.af (cY ρ id) with
  | some (.box Z9)=>Xq ρ Z9 bs++Ei ρ s r
  | _=>Ei ρ s r
 | _::r=>Ei ρ s r
def S2:List (Nat×Nat)->(List (Nat×Nat)->Prop)->Prop
 | [],K=>K []
 | (a,b)::r,K=>S2 r λ r'=>K ((a,b)::r')
def It:∀ {l:List (Nat×Nat)} {K:List (Nat×Nat)->Prop},S2 l K->K l
 | [],_,h=>h
 | (a,b)::r,K,h=>It (l:=r) (K:=λ r'=>K ((a,b)::r')) h
def NX(ρ:List (Nat×Nat))(s t:ag):Prop:=S2 (Ei ρ s t.aH++P7 ρ s.aw t.aw) λ r=>Fits (r++ρ) s t
def NX.ex{ρ:List (Nat×Nat)}{s t:ag}(h:NX ρ s t):∃ r,Fits (r++ρ) s t:=⟨_,It h⟩
def tT(E:Env):Code->(Nat->aJ)->Nat->(Exit->ag->Prop)->ag->Prop
 | .skip,_,_,Q,s=>Q .normal s
 | .region _ ops draw,_,_,Q,s=>match draw with
  | true=>Ut E ops (Q .normal) s
  | false=>eD E ops ops.toList [] (Q .normal) s
 | .seq a b,Λ,cur,Q,s=>match Code.a3c Λ b with
  | .none=>tT E a Λ cur (λ e s'=>match e with
   | .normal=>tT E b Λ cur Q s'
   | e=>Q e s') s
  | .mk ι P _ fz dead ins aL os Sa _ sub =>
   let zI:=dead++Code.zI a;tT E a Λ cur (λ e s'=>match e with
    | .normal=>∃ j:ι,P j/\NX Sa (fz.foldl ag.freeze s') (pI s zI (ins j) aL (os j))
    | e=>Q e s') s /\
   ∀ i:ι,P i->tT E b (sub i) cur Q (pI s zI (ins i) aL (os i))
 | .cond c a b,Λ,cur,Q,s=>match s.eval c with
  | .aN ⟨.bool,t⟩=>(t=true->tT E a Λ cur Q s)/\(t=false->tT E b Λ cur Q s)
  | _=>False
 | .block id c,Λ,_,Q,s=>tT E c Λ id (λ e s'=>match e with
  | .exit i=>match Nat.beq i id with
   | true=>Q .normal s'
   | false=>Q (.exit i) s'
  | e=>Q e s') s
 | .loop c,Λ,cur,Q,s=>match Λ cur with
  | .none=>False
  | .mk ι P μ fz dead ins aL os Sa ren sub =>
   let zI:=dead++Code.zI c;(∃ i:ι,P i/\NX Sa (fz.foldl ag.freeze s) (pI s zI (ins i) aL (os i))) /\
   ∀ i:ι,P i->tT E c (sub i) cur (λ e s'=>match e with
    | .normal=>∃ j:ι,P j/\μ j<μ i/\NX ren (fz.foldl ag.freeze s') (pI s zI (ins j) aL (os j))
    | e=>Q e s') (pI s zI (ins i) aL (os i))
 | .exit id,_,_,Q,s=>Q (.exit id) s
 | .ret,_,_,Q,s=>Q .ret s
 | .label _,_,_,Q,s=>Q .normal s
 | _,_,_,_,_=>False
def Lj(E:Env)(s:ag):List ResultVar->List TypeId->Option (List TV)
 | [],[]=>some []
 | r::rs,T::Ts=>match af E.ty T with
  | some (τ,_)=>match (match r with
    | .tmp t=>qt (Jj s.af) τ (s.eval (.tmp t))
    | .cell a t=>match Nat.beq t T with
     | true=>deref (Jj s.af) τ (s.eval (.tmp a))
     | false=>none) with
   | some x=>match Lj E s rs Ts with
    | some l=>some (⟨τ,x⟩::l)
    | none=>none
   | none=>none
  | none=>none
 | _,_=>none
def N9:Arg->AV
 | .val v => .aN v
 | .ref v => .cS v
 | .fn f => .fn f
 | .cN v => .gv v
 | .own _ => .any
 | .box _ => .any
def dB(fn:Func)(args:List Arg):ag :=
 { aw:=args.map N9++List.replicate (fn.ntmps - args.length) .any,aH:=[] }
def qf:Nat->List Arg->ag->ag
 | _,[],s=>s
 | p, .own v::r,s=>qf (p+1) r { aw:=s.aw.set p (hU (1000000+100 * p) v),aH:=bL (1000000+100 * p) v.cells++s.aH }
 | p,_::r,s=>qf (p+1) r s
def NT(fn:Func)(args:List Arg):ag:=qf 0 args (dB fn args)
def uz(E:Env)(fn:Func)(post:List TV->Prop)(e:Exit)(s:ag):Prop :=
 match e with
 | .ret | .normal=>match Lj E s fn.results.toList fn.resultTypes.toList with
  | some vs=>post vs
  | none=>False
 | _=>False
def tL:List TV->List TV->Prop
 | [],[]=>True
 | [v],[u]=>vM v u
 | v::vs,u::us=>vM v u/\tL vs us
 | _,_=>False
end
def bm(w:World)(b o:Nat)(cs:List Value):Prop:=∀ j v,cs[j]?=some v->w.cell? ⟨b,o+j,none⟩=some v
def D.size:D->Nat
 | .agg ds=>ds.length
 | _=>1
mutual
def Rd(w:World)(S:Nat->Prop):D->List Value->Prop
 | .int k n,cs=>cs=[.int k n]/\k.min<=n/\n<=k.max
 | .bool b,cs=>cs=[.bool b]
 | .str s,cs=>∃ x:ByteArray,cs=[.string x]/\x.data.toList=s/\x.size<=140737488355328
 | .slice _ xs,cs=>∃ a cap,cs=[.slice a xs.length cap]/\xs.length<=cap/\cap<=maxLen/\xs.length<=140737488355328/\(xs=[]\/∃ b o,a=some ⟨b,o,none⟩/\S b/\cF w S xs b o)
 | .agg ds,cs=>cJ w S ds cs
 | .hole,cs=>∃ a n m,cs=[.slice a n m]
 | .ptr,cs=>∃ p,cs=[.pointer p]
def cJ(w:World)(S:Nat->Prop):List D->List Value->Prop
 | [],cs=>cs=[]
 | d::ds,cs=>∃ v r,cs=v::r/\Rd w S d [v]/\cJ w S ds r
def cF(w:World)(S:Nat->Prop):List D->Nat->Nat->Prop
 | [],_,_=>True
 | d::ds,b,o=>(∃ cs,cs.length=d.size/\Rd w S d cs/\bm w b o cs)/\cF w S ds b (o+d.size)
end
def bm.aL{w w':World}{b o:Nat}{cs:List Value}(h:bm w b o cs)(hb:w'.heap[b]?=w.heap[b]?):bm w' b o cs :=
 λ j v hj=>by rw[<-h j v hj];exact b1i (a:=⟨b,o+j,none⟩) hb
mutual
def Rd.aL{w w':World}{S S':Nat->Prop}(hS:∀ b,S b->S' b)(hw:∀ b,S b->w'.heap[b]?=w.heap[b]?):∀ (d:D) {cs:List Value},Rd w S d cs->Rd w' S' d cs
 | .int _ _,_,h=>h
 | .bool _,_,h=>h
 | .str _,_,h=>h
 | .slice _ xs,_,h=>by
  obtain⟨a,cap,h1,h2,h3,h4,h5⟩:=h;refine⟨a,cap,h1,h2,h3,h4,h5.imp id ?_⟩;rintro⟨b,o,ha,hb,hr⟩;exact⟨b,o,ha,hS b hb,cF.aL hS hw xs b o hb hr⟩
 | .agg ds,_,h=>cJ.aL hS hw ds h
 | .hole,_,h=>h
 | .ptr,_,h=>h
def cJ.aL{w w':World}{S S':Nat->Prop}(hS:∀ b,S b->S' b)(hw:∀ b,S b->w'.heap[b]?=w.heap[b]?):∀ (ds:List D) {cs:List Value},cJ w S ds cs->cJ w' S' ds cs
 | [],_,h=>h
 | d::ds,_,h=>by
  obtain⟨v,r,h1,h2,h3⟩:=h;exact⟨v,r,h1,Rd.aL hS hw d h2,cJ.aL hS hw ds h3⟩
def cF.aL{w w':World}{S S':Nat->Prop}(hS:∀ b,S b->S' b)(hw:∀ b,S b->w'.heap[b]?=w.heap[b]?):∀ (ds:List D) (b o:Nat),S b->cF w S ds b o->cF w' S' ds b o
 | [],_,_,_,_=>trivial
 | d::ds,b,o,hb,h=>by
  obtain⟨⟨cs,h1,h2,h3⟩,h4⟩:=h;exact⟨⟨cs,h1,Rd.aL hS hw d h2,h3.aL (hw b hb)⟩,cF.aL hS hw ds b _ hb h4⟩
end
def cJ.length{w:World}{S:Nat->Prop}:∀ (ds:List D) {cs:List Value},cJ w S ds cs->cs.length=ds.length
 | [],_,h=>by rw[show _=[] from h];rfl
 | d::ds,_,h=>by
  obtain⟨v,r,rfl,_,h3⟩:=h;simp[cJ.length ds h3]
def Rd.length{w:World}{S:Nat->Prop}(d:D){cs:List Value}(h:Rd w S d cs):cs.length=d.size:=by
 cases d with
 | int k n=>rw[h.1];rfl
 | bool b=>rw[show cs=_ from h];rfl
 | str s=>obtain⟨x,h,_⟩:=h;rw[h];rfl
 | slice n xs=>obtain⟨a,cap,h,_⟩:=h;rw[h];rfl
 | agg ds=>exact cJ.length ds h
 | hole=>obtain⟨a,n,m,h⟩:=h;rw[h];rfl
 | ptr=>obtain⟨p,h⟩:=h;rw[h];rfl
def Ty.cq(t:Ty)(x:t.den):(t.aE x).size=t.size:=by
 cases t with
 | st s=>simp[Ty.aE,aG.bQ,D.size,Ty.size,aG.fF]
 | mv t=>cases (show Option (List t.den) from x)<;>rfl
 | _=>rfl
def cF.at_{w:World}{S:Nat->Prop}{n:Nat}:∀ (ds:List D) (b o:Nat),cF w S ds b o->(∀ d∈ds,d.size=n)->∀ i d,ds[i]?=some d ->
  ∃ cs,cs.length=n/\Rd w S d cs/\bm w b (o+i * n) cs
 | [],_,_,_,_,i,d,h=>by simp at h
 | e::ds,b,o,h,hn,0,d,hi=>by
  obtain⟨⟨cs,h1,h2,h3⟩,_⟩:=h;simp at hi;subst hi;exact⟨cs,by rw[h1];exact hn _ (by simp),h2,by simpa using h3⟩
 | e::ds,b,o,h,hn,i+1,d,hi=>by
  obtain⟨_,h4⟩:=h;rw[hn e (by simp)] at h4;obtain⟨cs,h1,h2,h3⟩:=cF.at_ ds b (o+n) h4 (λ d hd=>hn d (by simp[hd])) i d (by simpa using hi);exact⟨cs,h1,h2,by rw[show o+(i+1) * n=o+n+i * n by rw[Nat.add_mul];omega];exact h3⟩
def cF.a0z{w:World}{S:Nat->Prop}{n:Nat}:∀ (k:Nat) (ds:List D) (b o:Nat),cF w S ds b o->(∀ d∈ds,d.size=n)->cF w S (ds.drop k) b (o+k * n)
 | 0,ds,b,o,h,_=>by simpa using h
 | k+1,[],b,o,h,_=>by simp[cF]
 | k+1,d::ds,b,o,h,hn=>by
  have:=cF.a0z k ds b (o+n) (by have:=h.2;rwa [hn d (by simp)] at this) (λ d hd=>hn d (by simp[hd]));rw[show o+(k+1) * n=o+n+k * n by rw[a9Y];omega];exact this
def cF.a2o{w:World}{S:Nat->Prop}:∀ (k:Nat) (ds:List D) (b o:Nat),cF w S ds b o->cF w S (ds.take k) b o
 | 0,ds,b,o,h=>by simp[cF]
 | k+1,[],b,o,h=>by simp[cF]
 | k+1,d::ds,b,o,h=>⟨h.1,cF.a2o k ds b _ h.2⟩
def cZ(w:World)(S:Nat->Prop):List D->List Value->Prop
 | [],l=>l=[]
 | d::ds,l=>∃ c r,l=c++r/\Rd w S d c/\cZ w S ds r
def cZ.aL{w w':World}{S S':Nat->Prop}(hS:∀ b,S b->S' b)(hw:∀ b,S b->w'.heap[b]?=w.heap[b]?):∀ (ds:List D) {l:List Value},cZ w S ds l->cZ w' S' ds l
 | [],_,h=>h
 | d::ds,_,h=>by
  obtain⟨c,r,h1,h2,h3⟩:=h;exact⟨c,r,h1,Rd.aL hS hw d h2,cZ.aL hS hw ds h3⟩
def cZ.append{w:World}{S:Nat->Prop}:∀ (ds es:List D) {l m:List Value},cZ w S ds l->cZ w S es m->cZ w S (ds++es) (l++m)
 | [],_,_,_,h,k=>by rw[show _=[] from h];simpa using k
 | d::ds,es,_,m,h,k=>by
  obtain⟨c,r,rfl,h2,h3⟩:=h;exact⟨c,r++m,by simp,h2,cZ.append ds es h3 k⟩
def cZ.length{w:World}{S:Nat->Prop}{n:Nat}:∀ (ds:List D) {l:List Value},cZ w S ds l->(∀ d∈ds,d.size=n)->l.length=ds.length * n
 | [],_,h,_=>by rw[show _=[] from h];simp
 | d::ds,_,h,hn=>by
  obtain⟨c,r,rfl,h2,h3⟩:=h;rw[a9i,Rd.length d h2,hn d (by simp),cZ.length ds h3 (λ d hd=>hn d (by simp[hd])),a9f,a9Y];omega
def cZ.row{w:World}{S:Nat->Prop}:∀ (ds:List D) {l:List Value} (b o:Nat),cZ w S ds l->bm w b o l->cF w S ds b o
 | [],_,_,_,_,_=>trivial
 | d::ds,_,b,o,h,hc=>by
  obtain⟨c,r,rfl,h2,h3⟩:=h;refine⟨⟨c,Rd.length d h2,h2,λ j v hj=>hc j v ?_⟩,cZ.row ds b _ h3 λ j v hj=>?_⟩
  .rw[b0n]
   .exact hj
   .exact (a9p.1 hj).1
  .have:=hc (c.length+j) v (by rw[List.getElem?_append_right (by omega)];simpa using hj);rwa [Rd.length d h2,<-Nat.add_assoc] at this
def cF.cells{w:World}{S:Nat->Prop}:∀ (ds:List D) (b o:Nat),cF w S ds b o->∃ l,cZ w S ds l/\bm w b o l
 | [],_,_,_=>⟨[],rfl,λ j v h=>by simp at h⟩
 | d::ds,b,o,h=>by
  obtain⟨⟨c,h1,h2,h3⟩,h4⟩:=h;obtain⟨r,h5,h6⟩:=cF.cells ds b _ h4;refine⟨c++r,⟨c,r,rfl,h2,h5⟩,λ j v hj=>?_⟩;rcases a9O j c.length with bj|Tf
  .exact h3 j v (by rwa [b0n bj] at hj)
  .rw[b0Q Tf] at hj;have:=h6 (j - c.length) v hj;rwa [<-h1,show o+c.length+(j - c.length)=o+j by omega] at this
def cZ.at_{w:World}{S:Nat->Prop}{n:Nat}:∀ (ds:List D) {l:List Value},cZ w S ds l->(∀ d∈ds,d.size=n)->∀ i d,ds[i]?=some d->Rd w S d ((l.drop (i * n)).take n)
 | [],_,_,_,i,d,h=>by simp at h
 | e::ds,_,h,hn,0,d,hi=>by
  obtain⟨c,r,rfl,h2,h3⟩:=h;simp at hi;subst hi;have:c.length=n:=by rw[Rd.length _ h2];exact hn _ (by simp)
  simpa [<-this] using h2
 | e::ds,_,h,hn,i+1,d,hi=>by
  obtain⟨c,r,rfl,h2,h3⟩:=h;have hc:c.length=n:=by rw[Rd.length _ h2];exact hn _ (by simp)
  have:=cZ.at_ ds h3 (λ d hd=>hn d (by simp[hd])) i d (by simpa using hi);have h0:List.drop (n+i * n) c=[]:=List.drop_eq_nil_of_le (by omega);rw[show (i+1) * n=n+i * n by rw[Nat.add_mul];omega,List.drop_append,h0,List.nil_append,show n+i * n - c.length=i * n by omega];exact this
def rZ:Value->Bool
 | .int .. | .bool _ | .string _ | .slice .. | .pointer _=>true
 | _=>false
def D.leaf:D->Bool
 | .agg _=>false
 | _=>true
def Rd.rZ{w:World}{S:Nat->Prop}{d:D}(hd:d.leaf=true){cs:List Value}(h:Rd w S d cs):∃ v,cs=[v]/\YtofnjfpeimhifaaGreatDoor.rZ v=true:=by
 cases d with
 | int k n=>exact⟨_,h.1,rfl⟩
 | bool b=>exact⟨_,h,rfl⟩
 | str s=>obtain⟨x,h,_⟩:=h;exact⟨_,h,rfl⟩
 | slice n xs=>obtain⟨a,cap,h,_⟩:=h;exact⟨_,h,rfl⟩
 | agg ds=>cases hd
 | hole=>obtain⟨a,n,m,h⟩:=h;exact⟨_,h,rfl⟩
 | ptr=>obtain⟨p,h⟩:=h;exact⟨_,h,rfl⟩
def xb{v:Value}(h:YtofnjfpeimhifaaGreatDoor.rZ v=true):v.oneCell'=true:=by cases v<;>first|rfl|cases h
def I9{v:Value}(h:YtofnjfpeimhifaaGreatDoor.rZ v=true):v.cells = #[v]:=by cases v<;>first|rfl|cases h
def K4{α:Type}(n:Nat)(f:α->D)(o:Option (List α)):(mvD n f o).leaf=true:=by cases o<;>rfl
def aG.nz(s:aG)(x:s.den):∀ v∈s.cells x,v.aE.leaf=true:=by
 cases s<;>simp[aG.cells,TV.aE,Ty.aE,D.leaf]<;>exact K4 _ _ _
mutual
def Ow(w:World):D->List Value->List Nat->Prop
 | .int k n,cs,fp=>(cs=[.int k n]/\k.min<=n/\n<=k.max)/\fp=[]
 | .bool b,cs,fp=>cs=[.bool b]/\fp=[]
 | .str s,cs,fp=>(∃ x:ByteArray,cs=[.string x]/\x.data.toList=s/\x.size<=140737488355328)/\fp=[]
 | .slice n xs,cs,fp=>∃ a cap,cs=[.slice a xs.length cap]/\xs.length<=cap/\cap<=maxLen/\xs.length<=140737488355328 /\
   ((xs=[]/\(a=none/\cap=0)/\fp=[])\/∃ b f l t,a=some ⟨b,0,none⟩/\fp=b::f/\w.heap[b]?=some (.cells l.toArray t (0,0))/\l.length=cap * n/\bJ w xs l f)
 | .agg ds,cs,fp=>cV w ds cs fp
 | .hole,cs,fp=>(∃ a n m,cs=[.slice a n m])/\fp=[]
 | .ptr,cs,fp=>(∃ p,cs=[.pointer p])/\fp=[]
def cV(w:World):List D->List Value->List Nat->Prop
 | [],cs,fp=>cs=[]/\fp=[]
 | d::ds,cs,fp=>∃ v r f1 f2,cs=v::r/\fp=f1++f2/\Ow w d [v] f1/\cV w ds r f2
def bJ(w:World):List D->List Value->List Nat->Prop
 | [],_,fp=>fp=[]
 | d::ds,l,fp=>∃ c r f1 f2,l=c++r/\fp=f1++f2/\Ow w d c f1/\bJ w ds r f2
end
def cV.length{w:World}:∀ (ds:List D) {cs:List Value} {fp:List Nat},cV w ds cs fp->cs.length=ds.length
 | [],_,_,h=>by rw[h.1];rfl
 | d::ds,_,_,h=>by
  obtain⟨v,r,f1,f2,rfl,_,_,h4⟩:=h;simp[cV.length ds h4]
def Ow.length{w:World}(d:D){cs:List Value}{fp:List Nat}(h:Ow w d cs fp):cs.length=d.size:=by
 cases d with
 | int k n=>rw[h.1.1];rfl
 | bool b=>rw[h.1];rfl
 | str s=>obtain⟨⟨x,h,_⟩,_⟩:=h;rw[h];rfl
 | slice n xs=>obtain⟨a,cap,h,_⟩:=h;rw[h];rfl
 | agg ds=>exact cV.length ds h
 | hole=>obtain⟨⟨a,n,m,h⟩,_⟩:=h;rw[h];rfl
 | ptr=>obtain⟨⟨p,h⟩,_⟩:=h;rw[h];rfl
def CA{w:World}{b:Nat}{p c r:List Value}{t:TypeId}(h:w.heap[b]?=some (.cells (p++(c++r)).toArray t (0,0))):bm w b p.length c:=by
 intro j v hj;have hl:j<c.length:=(a9p.1 hj).1;have h2:(p++(c++r))[p.length+j]?=some v:=by
  rw[b0Q (by omega),b1r,b0n hl];exact hj
 simp[World.cell?,h,h2]
mutual
def Ow.rd{w:World}{S:Nat->Prop}:∀ (d:D) {cs:List Value} {fp:List Nat},Ow w d cs fp->(∀ b∈fp,S b)->Rd w S d cs
 | .int _ _,_,_,h,_=>h.1
 | .bool _,_,_,h,_=>h.1
 | .str _,_,_,h,_=>h.1
 | .slice n xs,_,_,h,hS=>by
  obtain⟨a,cap,h1,h2,h3,h4,h5⟩:=h;refine⟨a,cap,h1,h2,h3,h4,h5.imp And.left ?_⟩;rintro⟨b,f,l,t,rfl,rfl,hb,_,hr⟩;exact⟨b,0,rfl,hS b (by simp),bJ.rd xs (p:=[]) (by simpa using hb) hr (λ b hb=>hS b (by simp[hb]))⟩
 | .agg ds,_,_,h,hS=>cV.rd ds h hS
 | .hole,_,_,h,_=>h.1
 | .ptr,_,_,h,_=>h.1
def cV.rd{w:World}{S:Nat->Prop}:∀ (ds:List D) {cs:List Value} {fp:List Nat},cV w ds cs fp->(∀ b∈fp,S b)->cJ w S ds cs
 | [],_,_,h,_=>h.1
 | d::ds,_,_,h,hS=>by
  obtain⟨v,r,f1,f2,h1,rfl,h3,h4⟩:=h;exact⟨v,r,h1,Ow.rd d h3 λ b hb=>hS b (by simp[hb]),cV.rd ds h4 λ b hb=>hS b (by simp[hb])⟩
def bJ.rd{w:World}{S:Nat->Prop}{b:Nat}{t:TypeId}:∀ (ds:List D) {p l:List Value} {fp:List Nat},w.heap[b]?=some (.cells (p++l).toArray t (0,0))->bJ w ds l fp->(∀ b∈fp,S b)->cF w S ds b p.length
 | [],_,_,_,_,_,_=>trivial
 | d::ds,p,_,_,hb,h,hS=>by
  obtain⟨c,r,f1,f2,rfl,rfl,h3,h4⟩:=h;have hl:=Ow.length d h3;refine⟨⟨c,hl,Ow.rd d h3 λ b hb=>hS b (by simp[hb]),CA hb⟩,?_⟩;have:=bJ.rd ds (p:=p++c) (l:=r) (by simpa using hb) h4 (λ b hb=>hS b (by simp[hb]));rw[<-hl];simpa using this
end
mutual
def Ow.aL{w w':World}:∀ (d:D) {cs:List Value} {fp:List Nat},Ow w d cs fp->(∀ b∈fp,w'.heap[b]?=w.heap[b]?)->Ow w' d cs fp
 | .int _ _,_,_,h,_=>h
 | .bool _,_,_,h,_=>h
 | .str _,_,_,h,_=>h
 | .slice n xs,_,_,h,hw=>by
  obtain⟨a,cap,h1,h2,h3,h4,h5⟩:=h;refine⟨a,cap,h1,h2,h3,h4,h5.imp id ?_⟩;rintro⟨b,f,l,t,rfl,rfl,hb,hc,hr⟩;exact⟨b,f,l,t,rfl,rfl,by rw[hw b (by simp)];exact hb,hc,bJ.aL xs hr λ b hb=>hw b (by simp[hb])⟩
 | .agg ds,_,_,h,hw=>cV.aL ds h hw
 | .hole,_,_,h,_=>h
 | .ptr,_,_,h,_=>h
def cV.aL{w w':World}:∀ (ds:List D) {cs:List Value} {fp:List Nat},cV w ds cs fp->(∀ b∈fp,w'.heap[b]?=w.heap[b]?)->cV w' ds cs fp
 | [],_,_,h,_=>h
 | d::ds,_,_,h,hw=>by
  obtain⟨v,r,f1,f2,h1,rfl,h3,h4⟩:=h;exact⟨v,r,f1,f2,h1,rfl,Ow.aL d h3 λ b hb=>hw b (by simp[hb]),cV.aL ds h4 λ b hb=>hw b (by simp[hb])⟩
def bJ.aL{w w':World}:∀ (ds:List D) {l:List Value} {fp:List Nat},bJ w ds l fp->(∀ b∈fp,w'.heap[b]?=w.heap[b]?)->bJ w' ds l fp
 | [],_,_,h,_=>h
 | d::ds,_,_,h,hw=>by
  obtain⟨c,r,f1,f2,h1,rfl,h3,h4⟩:=h;exact⟨c,r,f1,f2,h1,rfl,Ow.aL d h3 λ b hb=>hw b (by simp[hb]),bJ.aL ds h4 λ b hb=>hw b (by simp[hb])⟩
end
mutual
def D.light:D->Bool
 | .slice .. => false
 | .agg ds=>D.Ed ds
 | _=>true
def D.Ed:List D->Bool
 | []=>true
 | d::ds=>d.light&&D.Ed ds
end
mutual
def Ow.ey{w:World}{S:Nat->Prop}:∀ (d:D) {cs:List Value},d.light=true->Rd w S d cs->Ow w d cs []
 | .int _ _,_,_,h=>⟨h,rfl⟩
 | .bool _,_,_,h=>⟨h,rfl⟩
 | .str _,_,_,h=>⟨h,rfl⟩
 | .slice n xs,_,hl,h=>by
  obtain⟨a,cap,h1,h2,h3,h4,h5⟩:=h;cases hl
 | .agg ds,_,hl,h=>cV.ey ds hl h
 | .hole,_,_,h=>⟨h,rfl⟩
 | .ptr,_,_,h=>⟨h,rfl⟩
def cV.ey{w:World}{S:Nat->Prop}:∀ (ds:List D) {cs:List Value},D.Ed ds=true->cJ w S ds cs->cV w ds cs []
 | [],_,_,h=>⟨h,rfl⟩
 | d::ds,_,hl,h=>by
  obtain⟨v,r,h1,h2,h3⟩:=h;simp only[D.Ed,a9e] at hl;exact⟨v,r,[],[],h1,rfl,Ow.ey d hl.1 h2,cV.ey ds hl.2 h3⟩
end
def bJ.ey{w:World}{S:Nat->Prop}:∀ (ds:List D) {l m:List Value},(∀ d∈ds,d.light=true)->cZ w S ds l->bJ w ds (l++m) []
 | [],_,_,_,_=>rfl
 | d::ds,_,m,hl,h=>by
  obtain⟨c,r,rfl,h2,h3⟩:=h;exact⟨c,r++m,[],[],by simp,rfl,Ow.ey d (hl d (by simp)) h2,bJ.ey ds (λ d hd=>hl d (by simp[hd])) h3⟩
def Fj{α:Type}(c r:List α)(k:Nat):(c++r).drop (c.length+k)=r.drop k:=by
 rw[<-b2h,b1l]
def ya{α:Type}(c r:List α)(k:Nat):(c++r).take (c.length+k)=c++r.take k:=by
 rw[b2y,a9A (by omega),b1r]
def bJ.split{w:World}{n:Nat}:∀ (ds:List D) {l:List Value} {fp:List Nat} (i:Nat) (d:D),bJ w ds l fp->(∀ d∈ds,d.size=n)->ds[i]?=some d ->
  ∃ f0 f1 f2,fp=f0++f1++f2/\i * n+n<=l.length/\Ow w d ((l.drop (i * n)).take n) f1 /\
   ∀ (w':World) (d':D) (c':List Value) (ij:List Nat),(∀ b∈f0++f2,w'.heap[b]?=w.heap[b]?)->c'.length=n->Ow w' d' c' ij->bJ w' (ds.set i d') (l.take (i * n)++c'++l.drop (i * n+n)) (f0++ij++f2)
 | [],_,_,_,_,_,_,h=>by simp at h
 | e::ds,l,fp,0,d,h,hn,hi=>by
  obtain⟨c,r,f1,f2,rfl,rfl,h3,h4⟩:=h;simp at hi;subst hi;have hc:c.length=n:=by rw[Ow.length _ h3];exact hn _ (by simp)
  refine⟨[],f1,f2,by simp,by simp;omega,?_,λ w' d' c' ij hw Kv WV=>?_⟩
  .simp only[b1W,b2i];rw[<-hc,b0Z];exact h3
  .simp only[b1W,b1a,a9L,b0t,List.set_cons_zero];rw[<-hc,b1l];exact⟨c',r,ij,f2,rfl,rfl,WV,bJ.aL ds h4 λ b hb=>hw b (by simp[hb])⟩
 | e::ds,l,fp,i+1,d,h,hn,hi=>by
  obtain⟨c,r,g1,g2,rfl,rfl,h3,h4⟩:=h;have hc:c.length=n:=by rw[Ow.length _ h3];exact hn _ (by simp)
  obtain⟨f0,f1,f2,rfl,hlen,k1,k2⟩:=bJ.split ds i d h4 (λ d hd=>hn d (by simp[hd])) (by simpa using hi);have e1:(i+1) * n=c.length+i * n:=by rw[hc,Nat.add_mul];omega
  have e2:(i+1) * n+n=c.length+(i * n+n):=by omega
  refine⟨g1++f0,f1,f2,by simp,by simp;omega,?_,λ w' d' c' ij hw Kv WV=>?_⟩
  .rw[e1,Fj];exact k1
  .rw[e1,show c.length+i * n+n=c.length+(i * n+n) by omega,ya,Fj];have:=k2 w' d' c' ij (λ b hb=>hw b (by simp at hb ⊢;rcases hb with hb|hb<;>simp[hb])) Kv WV;rw[show (e::ds).set (i+1) d'=e::ds.set i d' from rfl];exact⟨c,r.take (i * n)++c'++r.drop (i * n+n),g1,f0++ij++f2,by simp,by simp,Ow.aL e h3 λ b hb=>hw b (by simp[hb]),this⟩
open Go.MapKept
def nI(τ:Ty)(x:τ.den)(v:Value):Prop:=∀ (w:World) (S:Nat->Prop),Rd w S (τ.aE x) [v]
theorem nI.of{τ:Ty}(ep:τ.key=true){x:τ.den}{v:Value}{w:World}{S:Nat->Prop}(h:Rd w S (τ.aE x) [v]):nI τ x v:=by
 intro w' S';cases τ with
 | int k=>exact h
 | bool=>exact h
 | str=>exact h
 | _=>cases ep
theorem nI.val{τ:Ty}(ep:τ.key=true){x y:τ.den}{v:Value}(h:nI τ x v)(k:nI τ y v)(w:World):x=y:=by
 have h:=h w (λ _=>False);have k:=k w (λ _=>False);cases τ with
 | int q =>
  simp only[Ty.aE,Rd,List.cons.injEq,and_true] at h k;obtain⟨rfl,_⟩:=h;exact (by simpa using k.1)
 | bool =>
  simp only[Ty.aE,Rd,List.cons.injEq,and_true] at h k;subst h;simpa using k
 | str =>
  obtain⟨a,h1,h2,_⟩:=h;obtain⟨b,k1,k2,_⟩:=k;simp only[a9a,a9q] at h1 k1;subst h1;simp only[Value.string.injEq] at k1;subst k1;exact h2.symm.trans k2
 | _=>cases ep
theorem nI.inj{τ:Ty}(ep:τ.key=true){x:τ.den}{v u:Value}(h:nI τ x v)(k:nI τ x u)(w:World):v=u:=by
 have h:=h w (λ _=>False);have k:=k w (λ _=>False);cases τ with
 | int q =>
  simp only[Ty.aE,Rd,a9a,a9q] at h k;exact h.1.trans k.1.symm
 | bool =>
  simp only[Ty.aE,Rd,a9a,a9q] at h k;exact h.trans k.symm
 | str =>
  obtain⟨⟨⟨a⟩⟩,h1,h2,_⟩:=h;obtain⟨⟨⟨b⟩⟩,k1,k2,_⟩:=k;simp only[a9a,a9q] at h1 k1;simp only at h2 k2;rw[h1,k1,h2,k2]
 | _=>cases ep
def zD:(τ:Ty)->τ.den->Value->Prop
 | .st s,x,v=>∃ a b:Int,s.cells x=[⟨.int .i64,a⟩,⟨.int .i64,b⟩]/\v = .agg #[.int .i64 a, .int .i64 b]/\(ai a/\ai b)
 | τ,x,v=>nI τ x v
theorem zD.sc{τ:Ty}(ep:τ.key=true){x:τ.den}{v:Value}:zD τ x v↔nI τ x v:=by
 cases τ<;>first|exact b0X|cases ep
theorem zD.val{τ:Ty}(ep:τ.Fy=true){x y:τ.den}{v:Value}(h:zD τ x v)(k:zD τ y v)(w:World):x=y:=by
 cases τ with
 | st s =>
  obtain⟨a,b,h1,rfl,_⟩:=h;obtain⟨a',b',k1,k2,_⟩:=k;simp only[b2K,Array.mk.injEq,a9a,Value.int.injEq,b0z,a9q] at k2;obtain⟨rfl,rfl⟩:=k2;simp only[Ty.Fy,a9e] at ep;exact aG.a0g s ep.1 (h1.trans k1.symm)
 | int q=>exact nI.val (τ := .int q) rfl h k w
 | bool=>exact nI.val (τ := .bool) rfl h k w
 | str=>exact nI.val (τ := .str) rfl h k w
 | _=>cases ep
theorem zD.inj{τ:Ty}(ep:τ.Fy=true){x:τ.den}{v u:Value}(h:zD τ x v)(k:zD τ x u)(w:World):v=u:=by
 cases τ with
 | st s =>
  obtain⟨a,b,h1,rfl,_⟩:=h;obtain⟨a',b',k1,rfl,_⟩:=k;rw[h1] at k1;simp only[a9a,TV.mk.injEq,heq_eq_eq,b0z,a9q] at k1;obtain⟨rfl,rfl⟩:=k1;rfl
 | int q=>exact nI.inj (τ := .int q) rfl h k w
 | bool=>exact nI.inj (τ := .bool) rfl h k w
 | str=>exact nI.inj (τ := .str) rfl h k w
 | _=>cases ep
structure Hy(P:Program)(kT:TypeId)(κ:Ty):Prop where
 keyed:Go.Maps.Keyed P kT
 of:∀ (x:κ.den) (v:Value),zD κ x v->∃ l,keyOf P kT v=some l
theorem Hy.str{P:Program}{k:TypeId}(hk:P.underlying k=some .string)(w:World):Hy P k .str:=⟨Go.Maps.string_keyed hk,λ x v h=>by
 obtain⟨s,h1,h2,h4⟩:=h w (λ _=>False);simp only[a9a,a9q] at h1;subst h1;exact⟨_,Go.WideMaps.keyOf_string_mk hk (by simp only[maxLen];omega)⟩⟩
structure vZ(m:MV)(es:Array MapEntry):Prop where
 sk:m.κ.Fy=true
 se:m.ε.key=true
 len:es.size=m.n
 small:m.n<=1000000000
 nd:es.toList.Pairwise λ x y=>x.key≠y.key
 ent:∀ e∈es.toList,∃ k v,zD m.κ k e.key/\nI m.ε v e.val/\m.f k=some v
 all:∀ k v,m.f k=some v->∃ e∈es.toList,zD m.κ k e.key
theorem vZ.empty{κ ε:Ty}(h1:κ.Fy=true)(h2:ε.key=true):vZ ⟨κ,ε,xZ κ.den ε.den,0⟩ #[] where
 sk:=h1
 se:=h2
 len:=rfl
 small:=a9F _
 nd:=by simp
 ent e he:=by simp at he
 all k v h:=by simp[xZ] at h
section
variable {P:Program} {w:World} {m:MV} {es:Array MapEntry} {clock b:Nat} {T kT eT:TypeId}
theorem vZ.found(h:vZ m es)(K:Hy P kT m.κ){k:m.κ.den}{v:Value}(hv:zD m.κ k v)(w:World) :
  ((Instr.findKey kT v es.toList).run P w = .ok none w/\(∀ e∈es.toList,e.key≠v)/\m.f k=none) \/
  ∃ j e x,(Instr.findKey kT v es.toList).run P w = .ok (some (j,e.val)) w/\es.toList[j]?=some e/\e.key=v/\m.f k=some x/\nI m.ε x e.val:=by
 have hk:∀ e∈es.toList,∃ l,keyOf P kT e.key=some l:=λ e he=>by
  obtain⟨k',v',h1,_⟩:=h.ent e he;exact K.of k' _ h1
 obtain⟨lx,QX⟩:=K.of k v hv;rcases K.keyed.find w QX es.toList hk with ⟨h1,h2⟩|⟨j,e,h1,h2,h3⟩
 .refine .inl ⟨h1,h2,?_⟩;cases hf:m.f k with
  | none=>rfl
  | some x =>
   obtain⟨e,he,W0⟩:=h.all k x hf;exact absurd (W0.inj h.sk hv w) (h2 e he)
 .obtain⟨k',x,k1,k2,k3⟩:=h.ent e (a9C h2);have:k'=k:=k1.val h.sk (h3 ▸ hv) w;subst this;exact .inr ⟨j,e,x,h1,h2,h3,k3,k2⟩
theorem vZ.af(h:vZ m es)(hT:P.underlying T=some (.map kT eT))(K:Hy P kT m.κ)(hb:w.heap[b]?=some (.map es clock)){z:Value}(hz:(zeroValue eT).run P w = .ok z w)(Zj:nI m.ε m.ε.zero z)
  {k:m.κ.den} {v:Value} (hv:zD m.κ k v) (c:Bool):∃ u,nI m.ε ((m.f k).getD m.ε.zero) u/\(Instr.lookup T (.map (some b)) v c).run P w = .ok (if c then .tuple #[u, .bool (m.f k).isSome] else u) w:=by
 obtain⟨lx,QX⟩:=K.of k v hv;rcases h.found K hv w with ⟨h1,h2,h3⟩|⟨j,e,x,h1,h2,h3,h4,h5⟩
 .refine⟨z,by rw[h3];exact Zj,?_⟩;rw[h3];simp[Instr.lookup,a9I hT,b1C hb,K.keyed.check w _ QX,h1,hz,Result.andThen]
 .refine⟨e.val,by rw[h4];exact h5,?_⟩;rw[h4];simp[Instr.lookup,a9I hT,b1C hb,K.keyed.check w _ QX,h1,Result.andThen]
theorem vz{α β:Type}(f:α->Option β)(k:α)(v:β):qO f k v k=some v:=by simp[qO]
theorem kk{α β:Type}(f:α->Option β)(k:α)(v:β){x:α}(h:x≠k):qO f k v x=f x:=by simp[qO,h]
theorem FI{α:Type}{R:α->α->Prop}{a b:α}:∀ {l:List α} {j:Nat},l.Pairwise R->l[j]?=some a->(∀ x,R a x->R b x)->(∀ x,R x a->R x b)->(l.set j b).Pairwise R
 | [],j,h,hj,h1,h2=>by simp at hj
 | y::ys,0,h,hj,h1,h2=>by
  simp only[b1N,a8V] at hj;subst hj;obtain⟨k1,k2⟩:=b0E.1 h;exact b0E.2 ⟨λ x hx=>h1 x (k1 x hx),k2⟩
 | y::ys,j+1,h,hj,h1,h2=>by
  obtain⟨k1,k2⟩:=b0E.1 h;simp only[List.getElem?_cons_succ] at hj;refine b0E.2 ⟨λ x hx=>?_,FI k2 hj h1 h2⟩;rcases List.mem_or_eq_of_mem_set hx with hx|rfl
  .exact k1 x hx
  .exact h2 y (k1 a (a9C hj))
theorem vZ.store(h:vZ m es)(hT:P.underlying T=some (.map kT eT))(K:Hy P kT m.κ)(hb:w.heap[b]?=some (.map es clock))
  {k:m.κ.den} {v:Value} (hv:zD m.κ k v) {x:m.ε.den} {u:Value} (hu:nI m.ε x u) (hn:m.n<1000000000) :
  ∃ UG NA,(Instr.mapUpdate T (.map (some b)) v u).run P w = .ok () { w with heap:=w.heap.setIfInBounds b (.map UG NA) }/\vZ ⟨m.κ,m.ε,qO m.f k x,qN (m.f k) m.n⟩ UG:=by
 obtain⟨lx,QX⟩:=K.of k v hv;rcases h.found K hv w with ⟨h1,h2,h3⟩|⟨j,e,y,h1,h2,h3,h4,h5⟩
 .refine⟨es.push ⟨v,u,clock⟩,clock+1,?_,?_⟩
  .simp[Instr.mapUpdate,a9I hT,b1C hb,K.keyed.check w _ QX,h1,run_setObj_map _ hb,Result.andThen]
  .refine⟨h.sk,h.se,?_,by simp[qN,h3];omega,?_,?_,?_⟩
   .simp[qN,h3,h.len]
   .simp only[b2q];refine List.pairwise_append.2 ⟨h.nd,by simp,λ a ha b' cm=>?_⟩;simp only[a9w] at cm;subst cm;exact h2 a ha
   .intro e he;simp only[b2q,a8X,a9w] at he;rcases he with he|rfl
    .obtain⟨k',v',k1,k2,k3⟩:=h.ent e he;refine⟨k',v',k1,k2,?_⟩;show qO m.f k x k'=some v';rw[kk _ _ _ (λ e1=>h2 e he ((e1 ▸ k1).inj h.sk hv w))];exact k3
    .exact⟨k,x,hv,hu,vz _ _ _⟩
   .intro k' v' hf;by_cases Y8:k'=k
    .exact⟨⟨v,u,clock⟩,by simp,by rw[Y8];exact hv⟩
    .have hf':m.f k'=some v':=by rw[<-kk m.f k x Y8];exact hf
     obtain⟨e,he,W0⟩:=h.all k' v' hf';exact⟨e,by simp only[b2q,a8X];exact .inl he,W0⟩
 .have hj:es[j]?=some e:=by simpa using h2
  have Tg:(es.modify j (λ e'=>{ e' with key:=v,val:=u })).toList=es.toList.set j { e with key:=v,val:=u }:=by
   rw[Array.toList_modify];apply b2r;intro i;simp only[List.getElem?_modify,List.getElem?_set];by_cases uK:j=i
   .subst uK;have hl:=(a9p.1 h2).1;simp only[a9l,a9l hl];rw[h2];rfl
   .simp[uK]
  refine⟨es.modify j (λ e'=>{ e' with key:=v,val:=u }),clock,?_,?_⟩
  .simp[Instr.mapUpdate,a9I hT,b1C hb,K.keyed.check w _ QX,h1,hj,h3,K.keyed.stays w QX,run_setObj_map _ hb,Result.andThen]
  .have oth:∀ x'∈es.toList.set j { e with key:=v,val:=u },x'={ e with key:=v,val:=u }\/(x'∈es.toList/\x'.key≠v):=by
    intro x' hx;obtain⟨i,hi,ex⟩:=b0K hx;rw[List.getElem_set] at ex;split at ex
    .exact .inl ex.symm
    .rename_i dv;have gI:i<es.toList.length:=by simpa using hi
     refine .inr ⟨ex ▸ b0G gI,λ Tq=>?_⟩;have hjl:j<es.toList.length:=(a9p.1 h2).1;have hje:es.toList[j]=e:=(a9p.1 h2).2;have hpw:=List.pairwise_iff_getElem.1 h.nd;rcases Nat.lt_or_gt_of_ne dv with hl|hl
     .exact hpw j i hjl gI hl (by rw[hje,ex,h3,Tq])
     .exact hpw i j gI hjl hl (by rw[hje,ex,h3,Tq])
   refine⟨h.sk,h.se,?_,by simp[qN,h4];omega,?_,?_,?_⟩
   .simp[qN,h4,h.len]
   .rw[Tg];exact FI h.nd h2 (λ x' hx=>by rw[<-h3];exact hx) (λ x' hx=>by rw[<-h3];exact hx)
   .intro e' yJ;rw[Tg] at yJ;rcases oth e' yJ with rfl|⟨he,dv⟩
    .exact⟨k,x,hv,hu,vz _ _ _⟩
    .obtain⟨k',v',k1,k2,k3⟩:=h.ent e' he;refine⟨k',v',k1,k2,?_⟩;show qO m.f k x k'=some v';rw[kk _ _ _ (λ e1=>dv ((e1 ▸ k1).inj h.sk hv w))];exact k3
   .intro k' v' hf;by_cases Y8:k'=k
    .refine⟨{ e with key:=v,val:=u },?_,(show k'=k from Y8).symm ▸ hv⟩;rw[Tg];exact List.mem_iff_getElem.2 ⟨j,by simpa using (List.getElem?_eq_some_iff.1 h2).1,by simp⟩
    .have hf':m.f k'=some v':=by rw[<-kk m.f k x Y8];exact hf
     obtain⟨e',yJ,W0⟩:=h.all k' v' hf';refine⟨e',?_,W0⟩;rw[Tg];obtain⟨i,hi,ex⟩:=b0K yJ;have uK:j≠i:=by
      intro e1;subst e1;have hje:es.toList[j]=e:=(a9p.1 h2).2;have:e'=e:=ex ▸ hje;subst this;exact Y8 ((h3 ▸ W0).val h.sk hv w)
     exact List.mem_iff_getElem.2 ⟨i,by simpa using hi,by rw[List.getElem_set_ne uK];exact ex⟩
end
end Go.Proofs.YtofnjfpeimhifaaGreatDoor

namespace Go.Proofs.YtofnjfpeimhifaaGreatDoor
def aM{α β:Type}(R:α->β->Prop):List α->List β->Prop
 | [],[]=>True
 | a::Z9,b::bs=>R a b/\aM R Z9 bs
 | _,_=>False
theorem aM.length{α β:Type}{R:α->β->Prop}:∀ {Z9:List α} {bs:List β},aM R Z9 bs->Z9.length=bs.length
 | [],[],_=>rfl
 | _::_,_::_,h=>by simp[aM.length h.2]
 | [],_::_,h=>h.elim
 | _::_,[],h=>h.elim
theorem aM.imp{α β:Type}{R R':α->β->Prop}:∀ {Z9:List α} {bs:List β},aM R Z9 bs->(∀ a b,a∈Z9->R a b->R' a b)->aM R' Z9 bs
 | [],[],_,_=>trivial
 | _::_,_::_,h,k=>⟨k _ _ (by simp) h.1,aM.imp h.2 λ a b ha=>k a b (by simp[ha])⟩
 | [],_::_,h,_=>h.elim
 | _::_,[],h,_=>h.elim
theorem aM.at_{α β:Type}{R:α->β->Prop}:∀ {Z9:List α} {bs:List β},aM R Z9 bs->∀ (i:Nat) a,Z9[i]?=some a->∃ b,bs[i]?=some b/\R a b
 | [],[],_,i,a,h=>by simp at h
 | _::_,b::_,h,0,a,hi=>by simp at hi;subst hi;exact⟨b,rfl,h.1⟩
 | _::_,_::_,h,i+1,a,hi=>by simpa using aM.at_ h.2 i a (by simpa using hi)
 | [],_::_,h,_,_,_=>h.elim
 | _::_,[],h,_,_,_=>h.elim
theorem aM.append{α β:Type}{R:α->β->Prop}:∀ {Z9:List α} {bs:List β} {as' bs'},aM R Z9 bs->aM R as' bs'->aM R (Z9++as') (bs++bs')
 | [],[],_,_,_,k=>k
 | _::_,_::_,_,_,h,k=>⟨h.1,aM.append h.2 k⟩
 | [],_::_,_,_,h,_=>h.elim
 | _::_,[],_,_,h,_=>h.elim
theorem aM.take{α β:Type}{R:α->β->Prop}(n:Nat):∀ {Z9:List α} {bs:List β},aM R Z9 bs->aM R (Z9.take n) (bs.take n):=by
 induction n with
 | zero=>intro Z9 bs _;simp[aM]
 | succ n ih =>
  intro Z9 bs h;match Z9,bs,h with
  | [],[],_=>simp[aM]
  | _::_,_::_,h=>exact⟨h.1,ih h.2⟩
theorem aM.drop{α β:Type}{R:α->β->Prop}(n:Nat):∀ {Z9:List α} {bs:List β},aM R Z9 bs->aM R (Z9.drop n) (bs.drop n):=by
 induction n with
 | zero=>intro Z9 bs h;simpa using h
 | succ n ih =>
  intro Z9 bs h;match Z9,bs,h with
  | [],[],_=>simp[aM]
  | _::_,_::_,h=>exact ih h.2
theorem aM.dH{α β γ:Type}{R:γ->β->Prop}(f:α->γ):∀ {Z9:List α} {bs:List β},aM (λ a b=>R (f a) b) Z9 bs->aM R (Z9.map f) bs
 | [],[],_=>trivial
 | _::_,_::_,h=>⟨h.1,aM.dH f h.2⟩
 | [],_::_,h=>h.elim
 | _::_,[],h=>h.elim
theorem aM.of_map{α β γ:Type}{R:γ->β->Prop}(f:α->γ):∀ {Z9:List α} {bs:List β},aM R (Z9.map f) bs->aM (λ a b=>R (f a) b) Z9 bs
 | [],[],_=>trivial
 | _::_,_::_,h=>⟨h.1,aM.of_map f h.2⟩
 | [],_::_,h=>h.elim
 | _::_,[],h=>h.elim
theorem cJ.sC{w:World}{S:Nat->Prop}:∀ {vs:List TV} {cs:List Value},cJ w S (vs.map TV.aE) cs↔aM (λ v x=>Rd w S v.aE [x]) vs cs
 | [],[]=>by simp[cJ,aM]
 | [],_::_=>by simp[cJ,aM]
 | v::vs,[]=>by simp[cJ,aM]
 | v::vs,x::cs=>by
  simp only[a9x,cJ,aM];constructor
  .rintro⟨y,r,h1,h2,h3⟩;simp only[a9a] at h1;obtain⟨rfl,rfl⟩:=h1;exact⟨h2,cJ.sC.1 h3⟩
  .rintro⟨h1,h2⟩;exact⟨x,cs,rfl,h1,cJ.sC.2 h2⟩
structure bI(X:Nat->Prop)(w w':World):Prop where
 os:w'.os=w.os
 tape:w'.tape=w.tape
 output:w'.output=w.output
 size:w.heap.size<=w'.heap.size
 block:∀ b,b<w.heap.size->¬ X b->w'.heap[b]?=w.heap[b]?
theorem bI.refl(X:Nat->Prop)(w:World):bI X w w:=⟨rfl,rfl,rfl,a9n _,λ _ _ _=>rfl⟩
theorem bI.trans{X Y:Nat->Prop}{a b c:World}(h:bI X a b)(k:bI Y b c)(hXY:∀ i,i<a.heap.size->Y i->X i):bI X a c :=
 ⟨k.os.trans h.os,k.tape.trans h.tape,k.output.trans h.output,b0b h.size k.size,
  λ i hi hx=>(k.block i (a9g hi h.size) (λ hy=>hx (hXY i hi hy))).trans (h.block i hi hx)⟩
structure Ctx where
 P:Program
 E:Env
 w0:World
 X:Nat->Prop
 S0:Nat->Prop
 R:Nat->Option Value
 Z:Nat->Prop
 RB:Nat->Option Nat
structure Gh where
 S:Nat->Prop
 η:Nat->Value
 φ:Nat->List Nat
def St(c:Ctx)(S:Nat->Prop)(b:Nat):Prop:=S b\/(b<c.w0.heap.size/\¬ c.X b/\¬ c.Z b)
def dk:Value->Option Nat
 | .pointer (some a)=>some a.block
 | .slice (some a) _ _=>some a.block
 | .map (some b)=>some b
 | _=>none
def dC(w:World)(S:Nat->Prop)(v:TV)(x:Value):Prop :=
 match v with
 | ⟨.st s,y⟩=>∃ cs,x = .agg cs.toArray/\Rd w S (s.aE y) cs
 | v=>Rd w S v.aE [x]
def FT(w:World)(S:Nat->Prop):Arg->Value->Prop
 | .val v,x=>dC w S v x
 | .ref v,x=>∃ b o cs,x = .pointer (some ⟨b,o,none⟩)/\b<w.heap.size/\bm w b o cs/\Rd w S v.aE cs
 | .fn f,x=>x = .func (.func f) #[] #[]
 | .cN _,_=>False
 | .own _,_=>False
 | .box _,_=>False
def E9(w:World)(S:Nat->Prop):List TV->Value->Prop
 | [v],x=>dC w S v x
 | vs,x=>∃ l,x = .tuple l.toArray/\aM (dC w S) vs l
def ZZ(w:World)(S:Nat->Prop):Prop:=∀ g∈WI,S g/\∃ m,w.cell? ⟨g,0,none⟩=some (.int .i64 m)
def jf(w:World)(S:Nat->Prop):Prop:=(∀ b,S b->b<w.heap.size)/\ZZ w S
theorem ZZ.mono{w w':World}{S S':Nat->Prop}(h:ZZ w S)(hS:∀ b,S b->S' b)(hw:∀ b,S b->w'.heap[b]?=w.heap[b]?):ZZ w' S':=λ g hg=>by
 obtain⟨h1,m,h2⟩:=h g hg;exact⟨hS g h1,m,(b1i (a:=⟨g,0,none⟩) (hw g h1)).trans h2⟩
def HA(P:Program)(f:FuncId)(args:List Arg)(post:List TV->Prop):Prop :=
 ∀ (w:World) (S:Nat->Prop) (bV:List Value),jf w S->aM (FT w S) args bV ->
  Calls P f bV.toArray w λ e w'=>∃ x S' res,e = .returned x/\post res/\bI (λ _=>False) w w'/\(∀ b,b<w.heap.size->(S' b↔S b))/\(∀ b,S' b->b<w'.heap.size)/\E9 w' S' res x
def lG (P:Program) (f:FuncId):Prop:=∃ fn,P.funcs[f]?=some fn/\fn.body.isNone=false/\(fn.name == "runtime.NumGoroutine")=false
def zC(P:Program)(f:FuncId)(ei:List Arg):(ps:List Ty)->(r:Ty)->FN ps r->List Arg->Prop
 | [],r,F,acc=>F.1->lG P f/\HA P f (acc++ei) (·=[⟨r,F.2⟩])
 | t::ts,r,F,acc=>∀ x,zC P f ei ts r (F x) (acc++[.val ⟨t,x⟩])
def NU(c:Ctx)(S:Nat->Prop)(w:World):Arg->Value->Prop
 | .val v,x=>dC w S v x
 | .ref v,x=>∃ b o cs,x = .pointer (some ⟨b,o,none⟩)/\St c S b/\bm w b o cs/\Rd w S v.aE cs
 | .fn f,x=>x = .func (.func f) #[] #[]
 | .cN _,_=>False
 | .own _,_=>False
 | .box _,_=>False
def C1(c:Ctx)(G:Gh)(lk:Nat->Option av)(w:World):AV->Value->Prop
 | .any,_=>True
 | .dR,x=>x=undef
 | .aN v,x=>v.τ.agg=false/\Rd w G.S v.aE [x]
 | .nil,x=>x = .slice none 0 0
 | .cS v,x=>∃ b o cs,x = .pointer (some ⟨b,o,none⟩)/\St c G.S b/\bm w b o cs/\Rd w G.S v.aE cs
 | .ptr id off,x=>∃ b,G.η id = .pointer (some ⟨b,0,none⟩)/\x = .pointer (some ⟨b,off,none⟩)/\fw (lk id)=true
 | .row id,x=>x=G.η id/\isRow (lk id)=true/\∃ a n m,x = .slice a n m
 | .dX id i off,x=>∃ b n cap e τ xs,G.η id = .slice (some ⟨b,0,none⟩) n cap/\lk id=some (.row e τ xs)/\i<xs.length/\x = .pointer (some ⟨b,i * τ.size+off,none⟩)
 | .fn f,x=>x = .func (.func f) #[] #[]
 | .aC id,x=>cP (lk id)=true/\∃ l,G.η id = .tuple (x::l).toArray/\∃ a n m,x = .slice a n m
 | .sub id i off sz,x=>cP (lk id)=true/\∃ a n cap l,G.η id = .tuple (.slice a n cap::l).toArray/\i<n/\l[i * sz+off]?=some x/\∃ a n m,x = .slice a n m
 | .eo id i off sz,x=>cP (lk id)=true/\∃ b n cap l,G.η id = .tuple (.slice (some ⟨b,0,none⟩) n cap::l).toArray/\i<n/\x = .pointer (some ⟨b,i * sz+off,none⟩)
 | .gv v,x=>∃ f ei l,x = .func (.func f) #[] l.toArray/\zC c.P f ei v.ps v.r v.F []/\aM (NU c G.S w) ei l
 | .mp id,x=>x=G.η id/\GZ (lk id)=true/\∃ b,x = .map (some b)
 | .agg _,_=>False
 | .gb _,_=>False
 | .cN ..,_=>False
def TR(c:Ctx)(G:Gh)(lk:Nat->Option av)(w:World):AV->Value->Prop
 | .any,_=>True
 | .aN v,x=>dC w G.S v x
 | .aC id,x=>C1 c G lk w (.aC id) x
 | .cS v,x=>C1 c G lk w (.cS v) x
 | .agg cs,x=>∃ l,x = .agg l.toArray/\aM (C1 c G lk w) cs l
 | _,_=>False
def CR(c:Ctx)(G:Gh)(lk:Nat->Option av)(w:World):AV->Value->Prop
 | .aN v,x=>dC w G.S v x
 | .agg cs,x=>∃ l,x = .agg l.toArray/\aM (C1 c G lk w) cs l
 | v,x=>C1 c G lk w v x
def VR(c:Ctx)(G:Gh)(lk:Nat->Option av)(w:World):AV->Value->Prop
 | .aN v,x=>dC w G.S v x
 | .agg cs,x=>∃ l,x = .agg l.toArray/\aM (C1 c G lk w) cs l
 | .gb vs,x=>∃ l,x = .tuple l.toArray/\aM (TR c G lk w) vs l
 | .cN f cs,x=>∃ l,x = .func (.func f) #[] l.toArray/\aM (CR c G lk w) cs l
 | v,x=>C1 c G lk w v x
def OR(c:Ctx)(G:Gh)(lk:Nat->Option av)(w:World)(id:Nat):av->Prop
 | .box cs=>∃ b l t,G.η id = .pointer (some ⟨b,0,none⟩)/\w.heap[b]?=some (.cells l.toArray t (0,0))/\aM (C1 c G lk w) cs l
 | .row e τ xs=>∃ l,w.ownsRow 0 e τ.size (G.η id) xs.length l/\cZ w G.S (xs.map τ.aE) l/\xs.length<=140737488355328
 | .aC τ xs=>True
 | .map m=>∃ b es clock,G.η id = .map (some b)/\w.heap[b]?=some (.map es clock)/\vZ m es
def ic(w:World)(η:Value)(τ:Ty)(xs:List τ.den)(fp:List Nat):Prop :=
 ∃ v l a cap,η = .tuple (v::l).toArray/\v = .slice a xs.length cap/\xs.length<=cap/\cap<=maxLen/\xs.length<=140737488355328 /\
  ((xs=[]/\(a=none/\cap=0)/\fp=[])\/∃ b f t,a=some ⟨b,0,none⟩/\fp=b::f/\w.heap[b]?=some (.cells l.toArray t (0,0))/\l.length=cap * τ.size/\bJ w (xs.map τ.aE) l f)
structure FY(c:Ctx)(G:Gh)(lk:Nat->Option av)(w:World):Prop where
 tr:∀ id τ xs,lk id=some (.aC τ xs)->ic w (G.η id) τ xs (G.φ id)
 nd:∀ id τ xs,lk id=some (.aC τ xs)->(G.φ id).Nodup
 pl:∀ id τ xs b,lk id=some (.aC τ xs)->b∈G.φ id->(c.w0.heap.size<=b\/c.X b)/\¬ G.S b/\b<w.heap.size/\∀ i o,lk i=some o->dk (G.η i)≠some b
 ap:∀ id dm τ aT xs cM b,lk id=some (.aC τ xs)->lk dm=some (.aC aT cM)->b∈G.φ id->b∈G.φ dm->id=dm
def XGk(c:Ctx):Prop:=(∀ b,c.X b->b<c.w0.heap.size)/\∀ g∈WI,c.S0 g/\¬ c.X g/\g<c.w0.heap.size/\∃ m,c.w0.cell? ⟨g,0,none⟩=some (.int .i64 m)
structure bd(c:Ctx)(G:Gh)(sl:Nat->AV)(n:Nat)(lk:Nat->Option av)(a:Act)(w:World):Prop where
 defers:a.defers=[]
 size:a.tmps.size=n
 aL:bI c.X c.w0 w
 jE:XGk c
 ej:∀ b,b<c.w0.heap.size->¬ c.X b->(G.S b↔c.S0 b)
 sX:∀ b,c.S0 b->G.S b
 dI:∀ b,G.S b->b<w.heap.size
 aw:∀ i,VR c G lk w (sl i) (a.tmps.getD i undef)
 aH:∀ id o,lk id=some o->OR c G lk w id o
 place:∀ id o b,lk id=some o->dk (G.η id)=some b->(c.w0.heap.size<=b\/c.X b)/\¬ G.S b/\b<w.heap.size
 apart:∀ id dm o o' b,lk id=some o->lk dm=some o'->dk (G.η id)=some b->dk (G.η dm)=some b->id=dm
 aO:FY c G lk w
 root:∀ id v,c.R id=some v->cP (lk id)=true->∃ l,G.η id = .tuple (v::l).toArray
 gX:∀ id v,c.R id=some v->50<=id/\id<100
 dq:∀ id b,c.RB id=some b->fw (lk id)=true->G.η id = .pointer (some ⟨b,0,none⟩)
 eF:∀ id b,c.RB id=some b->400000<=id
theorem bd.ZC{c:Ctx}{G:Gh}{sl:Nat->AV}{n:Nat}{lk:Nat->Option av}{a:Act}{w:World}(h:bd c G sl n lk a w):jf w G.S:=⟨h.dI,λ g hg=>by
 obtain⟨h1,h2,h3,m,h4⟩:=h.jE.2 g hg;exact⟨h.sX g h1,m,(b1i (a:=⟨g,0,none⟩) (h.aL.block g h3 h2)).trans h4⟩⟩
def ag.sl(s:ag)(i:Nat):AV:=s.aw.getD i .any
def Inv(c:Ctx)(G:Gh)(s:ag)(a:Act)(w:World):Prop:=bd c G s.sl s.aw.length s.af a w
theorem qo{o:Option av}(h:isRow o=true):cP o=false:=by
 match o,h with
 | some (.row ..),_=>rfl
theorem FC{o:Option av}(h:GZ o=true):cP o=false:=by
 match o,h with
 | some (.map _),_=>rfl
def eb(o o':Option av):Prop :=
 (fw o=true->fw o'=true)/\(∀ e τ xs,o=some (.row e τ xs)->∃ e' cM,o'=some (.row e' τ cM)/\xs.length<=cM.length)/\(cP o=true->cP o'=true)/\(GZ o=true->GZ o'=true)
theorem eb.refl(o:Option av):eb o o:=⟨id,λ e τ xs h=>⟨e,xs,h,a9n _⟩,id,id⟩
theorem eb.isRow{o o':Option av}(h:eb o o')(hr:isRow o=true):YtofnjfpeimhifaaGreatDoor.isRow o'=true:=by
 match o,hr with
 | some (.row e τ xs),_ =>
  obtain⟨e',cM,h1,_⟩:=h.2.1 e τ xs rfl;rw[h1];rfl
section
variable {c:Ctx} {G G':Gh} {lk lk':Nat->Option av} {w w':World}
theorem dC.mono{v:TV}{x:Value}(h:dC w G.S v x)(hS:∀ b,G.S b->G'.S b)(hw:∀ b,G.S b->w'.heap[b]?=w.heap[b]?):dC w' G'.S v x:=by
 obtain⟨τ,y⟩:=v;cases τ with
 | st s =>
  obtain⟨cs,h1,h2⟩:=h;exact⟨cs,h1,Rd.aL hS hw _ h2⟩
 | _=>exact Rd.aL hS hw _ h
theorem NU.mono{S S':Nat->Prop}{v:Arg}{x:Value}(h:NU c S w v x)(hS:∀ b,S b->S' b)(hw:∀ b,St c S b->w'.heap[b]?=w.heap[b]?):NU c S' w' v x:=by
 cases v with
 | val v=>exact dC.mono (G:=⟨S,λ _=>undef,λ _=>[]⟩) (G':=⟨S',λ _=>undef,λ _=>[]⟩) h hS (λ b hb=>hw b (.inl hb))
 | ref v =>
  obtain⟨b,o,cs,h1,h2,h3,h4⟩:=h;exact⟨b,o,cs,h1,h2.imp (hS b) id,h3.aL (hw b h2),Rd.aL hS (λ b hb=>hw b (.inl hb)) _ h4⟩
 | fn f=>exact h
 | cN v=>exact h
 | own v=>exact h
 | box k=>exact h
theorem C1.mono{v:AV}{x:Value}(h:C1 c G lk w v x)(hk:∀ id,v.refs id=true->eb (lk id) (lk' id)/\G'.η id=G.η id)
  (hS:∀ b,G.S b->G'.S b) (hw:∀ b,St c G.S b->w'.heap[b]?=w.heap[b]?):C1 c G' lk' w' v x:=by
 have W9:∀ b,G.S b->w'.heap[b]?=w.heap[b]?:=λ b hb=>hw b (.inl hb);cases v with
 | any=>trivial
 | dR=>exact h
 | aN v=>exact⟨h.1,Rd.aL hS W9 _ h.2⟩
 | nil=>exact h
 | cS v =>
  obtain⟨b,o,cs,h1,h2,h3,h4⟩:=h;exact⟨b,o,cs,h1,h2.imp (hS b) id,h3.aL (hw b h2),Rd.aL hS W9 _ h4⟩
 | ptr id off =>
  obtain⟨b,h1,h2,h3⟩:=h;obtain⟨k1,k2⟩:=hk id (by simp[AV.refs]);exact⟨b,k2.trans h1,h2,k1.1 h3⟩
 | row id =>
  obtain⟨h1,h2,h3⟩:=h;obtain⟨k1,k2⟩:=hk id (by simp[AV.refs]);exact⟨h1.trans k2.symm,k1.isRow h2,h3⟩
 | dX id i off =>
  obtain⟨b,n,cap,e,τ,xs,h1,h2,h3,h4⟩:=h;obtain⟨k1,k2⟩:=hk id (by simp[AV.refs]);obtain⟨e',cM,k3,k4⟩:=k1.2.1 e τ xs h2;exact⟨b,n,cap,e',τ,cM,k2.trans h1,k3,by omega,h4⟩
 | fn f=>exact h
 | aC id =>
  obtain⟨h1,l,h2,h3⟩:=h;obtain⟨k1,k2⟩:=hk id (by simp[AV.refs]);exact⟨k1.2.2.1 h1,l,k2.trans h2,h3⟩
 | sub id i off sz =>
  obtain⟨h1,a,n,cap,l,h2,h3⟩:=h;obtain⟨k1,k2⟩:=hk id (by simp[AV.refs]);exact⟨k1.2.2.1 h1,a,n,cap,l,k2.trans h2,h3⟩
 | eo id i off sz =>
  obtain⟨h1,b,n,cap,l,h2,h3⟩:=h;obtain⟨k1,k2⟩:=hk id (by simp[AV.refs]);exact⟨k1.2.2.1 h1,b,n,cap,l,k2.trans h2,h3⟩
 | gv v =>
  obtain⟨f,ei,l,h1,h2,h3⟩:=h;exact⟨f,ei,l,h1,h2,h3.imp λ u y _ hy=>hy.mono hS hw⟩
 | mp id =>
  obtain⟨h1,h2,h3⟩:=h;obtain⟨k1,k2⟩:=hk id (by simp[AV.refs]);exact⟨h1.trans k2.symm,k1.2.2.2 h2,h3⟩
 | agg cs=>exact h
 | gb vs=>exact h
 | cN f cs=>exact h
theorem kr{id:Nat}:∀ {cs:List AV} {v:AV},v∈cs->v.refs id=true->AV.fB id cs=true
 | u::r,v,hm,hv=>by
  simp only[AV.fB];rcases a9k.1 hm with rfl|h
  .rw[hv]
  .split
   .rfl
   .exact kr h hv
theorem CR.mono{v:AV}{x:Value}(h:CR c G lk w v x)(hk:∀ id,v.refs id=true->eb (lk id) (lk' id)/\G'.η id=G.η id)
  (hS:∀ b,G.S b->G'.S b) (hw:∀ b,St c G.S b->w'.heap[b]?=w.heap[b]?):CR c G' lk' w' v x:=by
 cases v with
 | aN v=>exact dC.mono h hS (λ b hb=>hw b (.inl hb))
 | agg cs =>
  obtain⟨l,h1,h2⟩:=h;exact⟨l,h1,h2.imp λ u y hu hy=>hy.mono (λ id aS=>hk id (by simp only[AV.refs];exact kr hu aS)) hS hw⟩
 | any=>trivial
 | dR=>exact h
 | nil=>exact C1.mono (v := .nil) h hk hS hw
 | cS v=>exact C1.mono (v := .cS v) h hk hS hw
 | ptr i o=>exact C1.mono (v := .ptr i o) h hk hS hw
 | row i=>exact C1.mono (v := .row i) h hk hS hw
 | dX i k o=>exact C1.mono (v := .dX i k o) h hk hS hw
 | fn f=>exact C1.mono (v := .fn f) h hk hS hw
 | aC i=>exact C1.mono (v := .aC i) h hk hS hw
 | sub i k o z=>exact C1.mono (v := .sub i k o z) h hk hS hw
 | eo i k o z=>exact C1.mono (v := .eo i k o z) h hk hS hw
 | gv v=>exact C1.mono (v := .gv v) h hk hS hw
 | mp i=>exact C1.mono (v := .mp i) h hk hS hw
 | gb _=>exact h
 | cN _ _=>exact h
theorem VR.mono{v:AV}{x:Value}(h:VR c G lk w v x)(hk:∀ id,v.refs id=true->eb (lk id) (lk' id)/\G'.η id=G.η id)
  (hS:∀ b,G.S b->G'.S b) (hw:∀ b,St c G.S b->w'.heap[b]?=w.heap[b]?):VR c G' lk' w' v x:=by
 have W9:∀ b,G.S b->w'.heap[b]?=w.heap[b]?:=λ b hb=>hw b (.inl hb);cases v with
 | aN v=>exact dC.mono h hS W9
 | agg cs =>
  obtain⟨l,h1,h2⟩:=h;exact⟨l,h1,h2.imp λ u y hu hy=>hy.mono (λ id aS=>hk id (by simp only[AV.refs];exact kr hu aS)) hS hw⟩
 | gb vs =>
  obtain⟨l,h1,h2⟩:=h;refine⟨l,h1,h2.imp λ u y hu hy=>?_⟩;have eK:∀ id,u.refs id=true->eb (lk id) (lk' id)/\G'.η id=G.η id:=λ id aS=>hk id (by simp only[AV.refs];exact kr hu aS);cases u with
  | any=>trivial
  | aN v=>exact dC.mono hy hS W9
  | aC i=>exact C1.mono (v := .aC i) hy eK hS hw
  | cS v=>exact C1.mono (v := .cS v) hy eK hS hw
  | agg cs =>
   obtain⟨l,h1,h2⟩:=hy;exact⟨l,h1,h2.imp λ u y hu hy=>hy.mono (λ id aS=>eK id (by simp only[AV.refs];exact kr hu aS)) hS hw⟩
  | _=>exact hy.elim
 | dR=>trivial
 | any=>trivial
 | nil=>exact C1.mono (v := .nil) h hk hS hw
 | cS v=>exact C1.mono (v := .cS v) h hk hS hw
 | ptr i o=>exact C1.mono (v := .ptr i o) h hk hS hw
 | row i=>exact C1.mono (v := .row i) h hk hS hw
 | dX i k o=>exact C1.mono (v := .dX i k o) h hk hS hw
 | fn f=>exact C1.mono (v := .fn f) h hk hS hw
 | aC i=>exact C1.mono (v := .aC i) h hk hS hw
 | sub i k o z=>exact C1.mono (v := .sub i k o z) h hk hS hw
 | eo i k o z=>exact C1.mono (v := .eo i k o z) h hk hS hw
 | gv v=>exact C1.mono (v := .gv v) h hk hS hw
 | mp i=>exact C1.mono (v := .mp i) h hk hS hw
 | cN f cs =>
  obtain⟨l,h1,h2⟩:=h;exact⟨l,h1,h2.imp λ u y hu hy=>hy.mono (λ id aS=>hk id (by simp only[AV.refs];exact kr hu aS)) hS hw⟩
def av.refs(id:Nat):av->Bool
 | .box cs=>AV.fB id cs
 | .row .. => false
 | .aC .. => false
 | .map .. => false
theorem pY{v:Value}{e:TypeId}{size n:Nat}{l:List Value}(h:w.ownsRow 0 e size v n l):v.ownBlock=dk v:=by
 rcases h.2 with ⟨rfl,_⟩|⟨g,cap,cur,rfl,_⟩<;>rfl
theorem FH{e:TypeId}{size n:Nat}{v:Value}{l:List Value}(h:w.ownsRow 0 e size v n l)(hb:∀ b,dk v=some b->w'.heap[b]?=w.heap[b]?):w'.ownsRow 0 e size v n l:=by
 refine⟨h.1,h.2.imp id ?_⟩;rintro⟨g,cap,cur,rfl,h1,h2,h3⟩;exact⟨g,cap,cur,rfl,h1,by rw[hb g rfl];exact h2,h3⟩
theorem OR.mono{id:Nat}{o:av}(h:OR c G lk w id o)(fg:G'.η id=G.η id)(hb:∀ b,dk (G.η id)=some b->w'.heap[b]?=w.heap[b]?)
  (hk:∀ j,o.refs j=true->eb (lk j) (lk' j)/\G'.η j=G.η j) (hS:∀ b,G.S b->G'.S b) (hw:∀ b,St c G.S b->w'.heap[b]?=w.heap[b]?):OR c G' lk' w' id o:=by
 cases o with
 | box cs =>
  obtain⟨b,l,t,h1,h2,h3⟩:=h;refine⟨b,l,t,fg.trans h1,?_,h3.imp λ u y hu hy=>hy.mono (λ j hj=>hk j (kr hu hj)) hS hw⟩;rw[hb b (by rw[h1];rfl)];exact h2
 | row e τ xs =>
  obtain⟨l,h1,h2,h3⟩:=h;refine⟨l,?_,cZ.aL hS (λ b hb=>hw b (.inl hb)) _ h2,h3⟩;rw[fg];exact FH h1 hb
 | aC τ xs=>trivial
 | map m =>
  obtain⟨b,es,clock,h1,h2,h3⟩:=h;exact⟨b,es,clock,fg.trans h1,by rw[hb b (by rw[h1];rfl)];exact h2,h3⟩
end
theorem ic.aL{w w':World}{η:Value}{τ:Ty}{xs:List τ.den}{fp:List Nat}(h:ic w η τ xs fp)(hw:∀ b∈fp,w'.heap[b]?=w.heap[b]?):ic w' η τ xs fp:=by
 obtain⟨v,l,a,cap,h1,h2,h3,h4,h5,h6⟩:=h;refine⟨v,l,a,cap,h1,h2,h3,h4,h5,h6.imp id ?_⟩;rintro⟨b,f,t,k1,rfl,k2,k0,k3⟩;exact⟨b,f,t,k1,rfl,by rw[hw b (by simp)];exact k2,k0,bJ.aL _ k3 λ b hb=>hw b (by simp[hb])⟩
theorem bd.world{c:Ctx}{G:Gh}{sl:Nat->AV}{n:Nat}{lk:Nat->Option av}{a:Act}{w w':World}{S':Nat->Prop}(h:bd c G sl n lk a w)
  (gJ:bI (λ b=>c.w0.heap.size<=b\/c.X b) w w') (hS:∀ b,G.S b->S' b) (a0K:∀ b,b<w.heap.size->(S' b↔G.S b)) (hX:∀ b,c.S0 b->S' b) (hLt:∀ b,S' b->b<w'.heap.size)
  (hw:∀ b,St c G.S b->w'.heap[b]?=w.heap[b]?) (ji:∀ id o b,lk id=some o->dk (G.η id)=some b->w'.heap[b]?=w.heap[b]?) (oP:∀ id τ xs b,lk id=some (.aC τ xs)->b∈G.φ id->w'.heap[b]?=w.heap[b]?) :
  bd c ⟨S',G.η,G.φ⟩ sl n lk a w' where
 defers:=h.defers
 size:=h.size
 aL:=h.aL.trans gJ λ i hi hy=>hy.elim (λ h=>by omega) id
 jE:=h.jE
 ej b hb hx:=(a0K b (a9g hb h.aL.size)).trans (h.ej b hb hx)
 sX:=hX
 dI:=hLt
 aw i:=(h.aw i).mono (λ id _=>⟨eb.refl _,rfl⟩) hS hw
 aH id o ho:=(h.aH id o ho).mono rfl (λ b hb=>ji id o b ho hb) (λ j _=>⟨eb.refl _,rfl⟩) hS hw
 place id o b ho hb:=by
  obtain⟨h1,h2,h3⟩:=h.place id o b ho hb;exact⟨h1,λ hs=>h2 ((a0K b h3).1 hs),a9g h3 gJ.size⟩
 apart:=h.apart
 aO:={
  tr:=λ id τ xs ht=>(h.aO.tr id τ xs ht).aL λ b hb=>oP id τ xs b ht hb
  nd:=h.aO.nd
  pl:=λ id τ xs b ht hb=>by
   obtain⟨h1,h2,h3,h4⟩:=h.aO.pl id τ xs b ht hb;exact⟨h1,λ hs=>h2 ((a0K b h3).1 hs),a9g h3 gJ.size,h4⟩
  ap:=h.aO.ap }
 root:=h.root
 gX:=h.gX
 dq:=h.dq
 eF:=h.eF
theorem bd.drew{c:Ctx}{G:Gh}{sl:Nat->AV}{n:Nat}{lk:Nat->Option av}{a:Act}{w:World}(h:bd c G sl n lk a w):bd c G sl n lk a w.drew :=
 h.world (S':=G.S) ⟨rfl,rfl,rfl,a9n _,λ _ _ _=>rfl⟩ (λ _ h=>h) (λ _ _=>b0X) h.sX h.dI (λ _ _=>rfl) (λ _ _ _ _ _=>rfl) (λ _ _ _ _ _ _=>rfl)
def iO(n:Nat)(sl:Nat->AV)(d:Option Nat)(v:AV)(i:Nat):AV:=if d=some i/\i<n then v else sl i
theorem dT(a:Act)(d:Option Nat)(x:Value)(i:Nat):(a.put d x).tmps.getD i undef=if d=some i/\i<a.tmps.size then x else a.tmps.getD i undef:=by
 cases d with
 | none=>simp[Act.put]
 | some d =>
  simp only[Act.put,a8V];by_cases h:d=i
  .subst h;by_cases hl:d<a.tmps.size
   .simp[hl,a9G]
   .simp[hl,a9G,Array.setIfInBounds]
  .simp[h,a9G,b2j]
theorem fL(a:Act)(d:Option Nat)(x:Value):(a.put d x).tmps.size=a.tmps.size:=by cases d<;>simp[Act.put]
theorem iI(a:Act)(d:Option Nat)(x:Value):(a.put d x).defers=a.defers:=by cases d<;>rfl
theorem bd.put{c:Ctx}{G:Gh}{sl:Nat->AV}{n:Nat}{lk:Nat->Option av}{a:Act}{w:World}(h:bd c G sl n lk a w){d:Option Nat}{v:AV}{x:Value}(hv:VR c G lk w v x) :
  bd c G (iO n sl d v) n lk (a.put d x) w where
 defers:=(iI _ _ _).trans h.defers
 size:=(fL _ _ _).trans h.size
 aL:=h.aL
 jE:=h.jE
 ej:=h.ej
 sX:=h.sX
 dI:=h.dI
 aw i:=by
  rw[dT,h.size,iO];split
  .exact hv
  .exact h.aw i
 aH:=h.aH
 place:=h.place
 apart:=h.apart
 aO:=h.aO
 root:=h.root
 gX:=h.gX
 dq:=h.dq
 eF:=h.eF
theorem bd.forget{c:Ctx}{G:Gh}{sl sl':Nat->AV}{n:Nat}{lk:Nat->Option av}{a:Act}{w:World}(h:bd c G sl n lk a w)(hs:∀ i,sl' i=sl i\/sl' i = .any):bd c G sl' n lk a w where
 defers:=h.defers
 size:=h.size
 aL:=h.aL
 jE:=h.jE
 ej:=h.ej
 sX:=h.sX
 dI:=h.dI
 aw i:=by
  rcases hs i with e|e
  .rw[e];exact h.aw i
  .rw[e];trivial
 aH:=h.aH
 place:=h.place
 apart:=h.apart
 aO:=h.aO
 root:=h.root
 gX:=h.gX
 dq:=h.dq
 eF:=h.eF
theorem Vi(id:Nat)(v:AV):v.kill id=v\/v.kill id = .any:=by unfold AV.kill;split<;>simp
theorem AE(id:Nat)(v:AV):(v.kill id).refs id=false:=by
 unfold AV.kill;split
 .rfl
 .assumption
theorem C1.kill{c:Ctx}{G:Gh}{lk:Nat->Option av}{w:World}{v:AV}{x:Value}(h:C1 c G lk w v x)(id:Nat):C1 c G lk w (v.kill id) x:=by
 rcases Vi id v with e|e
 .rw[e];exact h
 .rw[e];trivial
theorem DL(id:Nat):∀ cs:List AV,AV.fB id (cs.map (AV.kill id))=false
 | []=>rfl
 | v::r=>by simp only[a9x,AV.fB,AE];exact DL id r
theorem OR.kill{c:Ctx}{G:Gh}{lk:Nat->Option av}{w:World}{i:Nat}{o:av}(h:OR c G lk w i o)(id:Nat):OR c G lk w i (o.kill id):=by
 cases o with
 | box cs =>
  obtain⟨b,l,t,h1,h2,h3⟩:=h;exact⟨b,l,t,h1,h2,aM.dH _ (h3.imp λ u y _ hy=>hy.kill id)⟩
 | row e τ xs=>exact h
 | aC τ xs=>exact h
 | map m=>exact h
theorem Hm(id:Nat)(o:Option av):eb o (o.map (av.kill id)):=by
 refine⟨λ h=>?_,λ e τ xs h=>⟨e,xs,by rw[h];rfl,a9n _⟩,λ h=>?_,λ h=>?_⟩
 .match o,h with
  | some (.box cs),_=>rfl
 .match o,h with
  | some (.aC τ xs),_=>rfl
 .match o,h with
  | some (.map m),_=>rfl
theorem iA{id:Nat}{o:Option av}{τ:Ty}{xs:List τ.den}(h:o.map (av.kill id)=some (.aC τ xs)):o=some (.aC τ xs):=by
 match o,h with
 | some (.aC aT cM),h=>exact h
 | some (.box _),h=>cases h
 | some (.row ..),h=>cases h
theorem FY.sub{c:Ctx}{G:Gh}{lk lk':Nat->Option av}{w:World}(h:FY c G lk w)(ht:∀ id τ xs,lk' id=some (.aC τ xs)->lk id=some (.aC τ xs))(ho:∀ i o,lk' i=some o->∃ o',lk i=some o'):FY c G lk' w where
 tr id τ xs k:=h.tr id τ xs (ht id τ xs k)
 nd id τ xs k:=h.nd id τ xs (ht id τ xs k)
 pl id τ xs b k hb:=by
  obtain⟨h1,h2,h3,h4⟩:=h.pl id τ xs b (ht id τ xs k) hb;exact⟨h1,h2,h3,λ i o hi=>(ho i o hi).elim λ o' cE=>h4 i o' cE⟩
 ap id dm τ aT xs cM b k k':=h.ap id dm τ aT xs cM b (ht id τ xs k) (ht dm aT cM k')
theorem bd.bP{c:Ctx}{G:Gh}{sl:Nat->AV}{n:Nat}{lk:Nat->Option av}{a:Act}{w:World}(h:bd c G sl n lk a w)(id:Nat) :
  bd c G (λ i=>(sl i).kill id) n (λ i=>(lk i).map (av.kill id)) a w:=by
 have h1:bd c G (λ i=>(sl i).kill id) n lk a w:=h.forget λ i=>Vi id (sl i);exact {
  defers:=h1.defers,size:=h1.size,aL:=h1.aL,jE:=h1.jE,ej:=h1.ej,sX:=h1.sX,dI:=h1.dI
  aw:=λ i=>(h1.aw i).mono (λ j _=>⟨Hm id _,rfl⟩) (λ _ h=>h) (λ _ _=>rfl)
  aH:=λ i o ho=>by
   rw[a9D] at ho;obtain⟨o',cE,rfl⟩:=ho;exact ((h1.aH i o' cE).kill id).mono rfl (λ _ _=>rfl) (λ j _=>⟨Hm id _,rfl⟩) (λ _ h=>h) (λ _ _=>rfl)
  place:=λ i o b ho hb=>by
   rw[a9D] at ho;obtain⟨o',cE,rfl⟩:=ho;exact h1.place i o' b cE hb
  apart:=λ i j o o' b ho cE hb cm=>by
   rw[a9D] at ho cE;obtain⟨p,hp,rfl⟩:=ho;obtain⟨q,hq,rfl⟩:=cE;exact h1.apart i j p q b hp hq hb cm
  aO:=h1.aO.sub (λ i τ xs k=>iA k) (λ i o k=>by
   rw[a9D] at k;obtain⟨p,hp,_⟩:=k;exact⟨p,hp⟩)
  root:=λ i v hr ht=>h1.root i v hr (by
   match hl:lk i,ht with
   | some (.aC ..),_=>rfl
   | some (.box _),ht=>simp[hl,av.kill,cP] at ht
   | some (.row ..),ht=>simp[hl,av.kill,cP] at ht
   | none,ht=>simp[hl,cP] at ht)
  gX:=h1.gX
  dq:=λ i v hr ht=>h1.dq i v hr (by
   match hl:lk i,ht with
   | some (.box _),_=>rfl
   | some (.aC ..),ht=>simp[hl,av.kill,fw] at ht
   | some (.row ..),ht=>simp[hl,av.kill,fw] at ht
   | none,ht=>simp[hl,fw] at ht)
  eF:=h1.eF }
theorem bd.a2L{c:Ctx}{G:Gh}{sl:Nat->AV}{n:Nat}{lk:Nat->Option av}{a:Act}{w:World}(h:bd c G sl n lk a w)(id:Nat)
  (hs:∀ i,(sl i).refs id=false) (ho:∀ i o,lk i=some o->i≠id->o.refs id=false):bd c G sl n (λ i=>if i=id then none else lk i) a w:=by
 have eY:∀ j,j≠id->eb (lk j) ((λ i=>if i=id then none else lk i) j):=λ j hj=>by simp only[a9c hj];exact eb.refl _
 exact {
  defers:=h.defers,size:=h.size,aL:=h.aL,jE:=h.jE,ej:=h.ej,sX:=h.sX,dI:=h.dI
  aw:=λ i=>(h.aw i).mono (λ j hj=>⟨eY j (λ e=>by subst e;rw[hs i] at hj;cases hj),rfl⟩) (λ _ h=>h) (λ _ _=>rfl)
  aH:=λ i o cg=>by
   by_cases hi:i=id
   .simp[hi] at cg
   .simp only[a9c hi] at cg;exact (h.aH i o cg).mono rfl (λ _ _=>rfl) (λ j hj=>⟨eY j (λ e=>by subst e;rw[ho i o cg hi] at hj;cases hj),rfl⟩) (λ _ h=>h) (λ _ _=>rfl)
  place:=λ i o b cg hb=>by
   by_cases hi:i=id
   .simp[hi] at cg
   .simp only[a9c hi] at cg;exact h.place i o b cg hb
  apart:=λ i j o o' b cg GR hb cm=>by
   by_cases hi:i=id
   .simp[hi] at cg
   .by_cases hj:j=id
    .simp[hj] at GR
    .simp only[a9c hi] at cg;simp only[a9c hj] at GR;exact h.apart i j o o' b cg GR hb cm
  aO:=h.aO.sub (λ i τ xs k=>by
   by_cases hi:i=id
   .simp[hi] at k
   .simpa only[if_neg hi] using k) (λ i o k=>by
   by_cases hi:i=id
   .simp[hi] at k
   .exact⟨o,by simpa only[if_neg hi] using k⟩)
  root:=λ i v hr ht=>h.root i v hr (by
   by_cases hi:i=id
   .simp[hi,cP] at ht
   .simpa only[if_neg hi] using ht)
  gX:=h.gX
  dq:=λ i v hr ht=>h.dq i v hr (by
   by_cases hi:i=id
   .simp[hi,fw] at ht
   .simpa only[if_neg hi] using ht)
  eF:=h.eF }
theorem bd.newObj{c:Ctx}{G:Gh}{sl:Nat->AV}{n:Nat}{lk:Nat->Option av}{a:Act}{w:World}(h:bd c G sl n lk a w)(id:Nat)(o:av)(x:Value)
  (aS:lk id=none) (hs:∀ i,(sl i).refs id=false) (ho:∀ i o,lk i=some o->o.refs id=false) (hor:o.refs id=false)
  (oU:OR c ⟨G.S,λ i=>if i=id then x else G.η i,G.φ⟩ (λ i=>if i=id then some o else lk i) w id o)
  (MT:cP (some o)=false) (bj:fw (some o)=false\/id<400000) (hblk:∀ b,dk x=some b->(c.w0.heap.size<=b\/c.X b)/\¬ G.S b/\b<w.heap.size/\(∀ i o',lk i=some o'->dk (G.η i)≠some b)/\∀ j τ xs,lk j=some (.aC τ xs)->b∉G.φ j) :
  bd c ⟨G.S,λ i=>if i=id then x else G.η i,G.φ⟩ sl n (λ i=>if i=id then some o else lk i) a w:=by
 have eY:∀ j,j≠id->eb (lk j) ((λ i=>if i=id then some o else lk i) j)/\(if j=id then x else G.η j)=G.η j:=λ j hj=>by simp only[a9c hj];exact⟨eb.refl _,U⟩
 exact {
  defers:=h.defers,size:=h.size,aL:=h.aL,jE:=h.jE,ej:=h.ej,sX:=h.sX,dI:=h.dI
  aw:=λ i=>(h.aw i).mono (λ j hj=>eY j (λ e=>by subst e;rw[hs i] at hj;cases hj)) (λ _ h=>h) (λ _ _=>rfl)
  aH:=λ i o' cg=>by
   by_cases hi:i=id
   .subst hi;simp only[b0Y,a8V] at cg;subst cg;exact oU
   .simp only[a9c hi] at cg;exact (h.aH i o' cg).mono (by simp only[a9c hi]) (λ _ _=>rfl) (λ j hj=>eY j (λ e=>by subst e;rw[ho i o' cg] at hj;cases hj)) (λ _ h=>h) (λ _ _=>rfl)
  place:=λ i o' b cg hb=>by
   by_cases hi:i=id
   .simp only[a9l hi] at hb;obtain⟨h1,h2,h3,_⟩:=hblk b hb;exact⟨h1,h2,h3⟩
   .simp only[a9c hi] at cg hb;exact h.place i o' b cg hb
  apart:=λ i j o1 o2 b cg GR hb cm=>by
   by_cases hi:i=id
   .by_cases hj:j=id
    .rw[hi,hj]
    .simp only[a9c hj] at GR cm;simp only[a9l hi] at hb;exact absurd cm ((hblk b hb).2.2.2.1 j o2 GR)
   .by_cases hj:j=id
    .simp only[a9c hi] at cg hb;simp only[a9l hj] at cm;exact absurd hb ((hblk b cm).2.2.2.1 i o1 cg)
    .simp only[a9c hi] at cg hb;simp only[a9c hj] at GR cm;exact h.apart i j o1 o2 b cg GR hb cm
  aO:=by
   have hold:∀ j τ xs,(if j=id then some o else lk j)=some (.aC τ xs)->j≠id/\lk j=some (.aC τ xs):=λ j τ xs k=>by
    by_cases hj:j=id
    .rw[a9l hj] at k;cases k;cases MT
    .rw[a9c hj] at k;exact⟨hj,k⟩
   exact {
    tr:=λ j τ xs k=>by
     obtain⟨h1,h2⟩:=hold j τ xs k;simp only[a9c h1];exact h.aO.tr j τ xs h2
    nd:=λ j τ xs k=>h.aO.nd j τ xs (hold j τ xs k).2
    pl:=λ j τ xs b k hb=>by
     obtain⟨h1,h2,h3,h4⟩:=h.aO.pl j τ xs b (hold j τ xs k).2 hb;refine⟨h1,h2,h3,λ i p te=>?_⟩;by_cases hi:i=id
     .simp only[a9l hi];exact λ e=>(hblk b e).2.2.2.2 j τ xs (hold j τ xs k).2 hb
     .simp only[a9c hi] at te ⊢;exact h4 i p te
    ap:=λ j j' τ aT xs cM b k k'=>h.aO.ap j j' τ aT xs cM b (hold j τ xs k).2 (hold j' aT cM k').2 }
  root:=λ i v hr ht=>by
   by_cases hi:i=id
   .simp only[a9l hi] at ht;rw[MT] at ht;cases ht
   .simp only[a9c hi] at ht ⊢;exact h.root i v hr ht
  gX:=h.gX
  dq:=λ i v hr ht=>by
   by_cases hi:i=id
   .subst hi;rcases bj with bj|bj
    .simp only[b0Y] at ht;rw[bj] at ht;cases ht
    .have:=h.eF i v hr;omega
   .simp only[a9c hi] at ht ⊢;exact h.dq i v hr ht
  eF:=h.eF }
theorem bd.TJ{c:Ctx}{G:Gh}{sl:Nat->AV}{n:Nat}{lk:Nat->Option av}{a:Act}{w w':World}(h:bd c G sl n lk a w)(id:Nat)(o o':av)(b:Nat)(aS:lk id=some o)(hb:dk (G.η id)=some b)
  (eY:eb (some o) (some o')) (MT:cP (some o')=false) (hw:∀ k,k≠b->w'.heap[k]?=w.heap[k]?) (hos:w'.os=w.os) (W7:w'.tape=w.tape) (R0:w'.output=w.output) (xS:w'.heap.size=w.heap.size)
  (oU:OR c G (λ i=>if i=id then some o' else lk i) w' id o'):bd c G sl n (λ i=>if i=id then some o' else lk i) a w':=by
 obtain⟨QZ,hp2,hp3⟩:=h.place id o b aS hb;have cd:∀ k,St c G.S k->w'.heap[k]?=w.heap[k]?:=λ k hk=>hw k λ e=>by
  subst e;rcases hk with hk|hk
  .exact hp2 hk
  .exact QZ.elim (λ q=>by omega) hk.2.1
 have hs:∀ j,eb (lk j) ((λ i=>if i=id then some o' else lk i) j):=λ j=>by
  by_cases hj:j=id
  .subst hj;simp only[b0Y];rw[aS];exact eY
  .simp only[a9c hj];exact eb.refl _
 exact {
  defers:=h.defers,size:=h.size
  aL:=h.aL.trans (Y:=λ k=>c.w0.heap.size<=k\/c.X k) ⟨hos,W7,R0,Nat.le_of_eq xS.symm,λ k _ hx=>hw k λ e=>by subst e;exact hx QZ⟩ λ i hi hy=>hy.elim (λ h=>by omega) (λ h=>h)
  jE:=h.jE,ej:=h.ej,sX:=h.sX
  dI:=λ k hk=>by rw[xS];exact h.dI k hk
  aw:=λ i=>(h.aw i).mono (λ j _=>⟨hs j,rfl⟩) (λ _ h=>h) cd
  aH:=λ i p hp=>by
   by_cases hi:i=id
   .subst hi;simp only[b0Y,a8V] at hp;subst hp;exact oU
   .simp only[a9c hi] at hp;exact (h.aH i p hp).mono rfl (λ k hk=>hw k λ e=>by subst e;exact hi (h.apart i id p o _ hp aS hk hb)) (λ j _=>⟨hs j,rfl⟩) (λ _ h=>h) cd
  place:=λ i p k hp hk=>by
   rw[xS];by_cases hi:i=id
   .subst hi;exact h.place i o k aS hk
   .simp only[a9c hi] at hp;exact h.place i p k hp hk
  apart:=λ i j p q k hp hq hk eK=>by
   by_cases hi:i=id
   .by_cases hj:j=id
    .rw[hi,hj]
    .simp only[a9c hj] at hq;rw[hi] at hk ⊢;exact h.apart id j o q k aS hq hk eK
   .simp only[a9c hi] at hp;by_cases hj:j=id
    .rw[hj] at eK ⊢;exact h.apart i id p o k hp aS hk eK
    .simp only[a9c hj] at hq;exact h.apart i j p q k hp hq hk eK
  aO:=by
   have hold:∀ j τ xs,(if j=id then some o' else lk j)=some (.aC τ xs)->lk j=some (.aC τ xs):=λ j τ xs k=>by
    by_cases hj:j=id
    .rw[a9l hj] at k;cases k;cases MT
    .rwa [a9c hj] at k
   exact {
    tr:=λ j τ xs k=>(h.aO.tr j τ xs (hold j τ xs k)).aL λ k' eK=>hw k' λ e=>by
     subst e;exact (h.aO.pl j τ xs _ (hold j τ xs k) eK).2.2.2 id o aS hb
    nd:=λ j τ xs k=>h.aO.nd j τ xs (hold j τ xs k)
    pl:=λ j τ xs b' k cm=>by
     obtain⟨h1,h2,h3,h4⟩:=h.aO.pl j τ xs b' (hold j τ xs k) cm;refine⟨h1,h2,by rw[xS];exact h3,λ i p te=>?_⟩;by_cases hi:i=id
     .rw[hi];exact h4 id o aS
     .rw[a9c hi] at te;exact h4 i p te
    ap:=λ j j' τ aT xs cM b' k k'=>h.aO.ap j j' τ aT xs cM b' (hold j τ xs k) (hold j' aT cM k') }
  root:=λ i v hr ht=>by
   by_cases hi:i=id
   .simp only[a9l hi] at ht;rw[MT] at ht;cases ht
   .simp only[a9c hi] at ht;exact h.root i v hr ht
  gX:=h.gX
  dq:=λ i v hr ht=>by
   by_cases hi:i=id
   .subst hi;simp only[b0Y] at ht;refine h.dq i v hr ?_;rw[aS];cases o with
    | box cs=>rfl
    | row e τ xs=>obtain⟨e',cM,q,_⟩:=eY.2.1 e τ xs rfl;rw[q] at ht;cases ht
    | aC τ xs=>have h3:cP (some o')=true:=eY.2.2.1 rfl;rw[MT] at h3;cases h3
    | map m =>
     obtain⟨b1,_,_,k1,_⟩:=h.aH i _ aS;match o',ht with
     | .box cs,_ =>
      obtain⟨b2,_,_,k2,_⟩:=oU;rw[k1] at k2;cases k2
   .simp only[a9c hi] at ht;exact h.dq i v hr ht
  eF:=h.eF }
def vO:Ty->Value->Bool
 | .int k, .int k' n=>decide (k=k')&&decide (n=0)
 | .bool, .bool b => !b
 | .str, .string s=>s.data.toList.isEmpty
 | .slice _, .slice none 0 0=>true
 | .ptr, .pointer none=>true
 | _,_=>false
def JV:List Ty->List Value->Bool
 | [],[]=>true
 | t::ts,v::vs=>vO t v&&JV ts vs
 | _,_=>false
def xv(τ:Ty)(v:Value):Bool :=
 match τ,v with
 | .st s, .agg cs=>JV s.nr cs.toList
 | .st _,_=>false
 | τ,v=>vO τ v
def NF(P:Program)(T:TypeId)(τ:Ty):Bool :=
 match P.info? T with
 | some i=>Nat.beq i.size τ.size&&(match i.zero with
  | some z=>xv τ z
  | none=>false)
 | none=>false
def D6(E:Env)(s:aG):Nat->List Field->List Ty->Bool
 | _,[],[]=>true
 | i,f::fs,t::ts=>(match af E.ty f.type with
   | some (τ,_)=>decide (τ=t)
   | none=>false)&&Nat.beq f.offset (s.dx i)&&D6 E s (i+1) fs ts
 | _,_,_=>false
def oM(P:Program)(E:Env)(T:TypeId)(τ:Ty)(b e:Nat):Bool :=
 NF P T τ&&match τ with
  | .int k=>match P.underlying T with
   | some (.int k')=>decide (k=k')
   | _=>false
  | .bool=>match P.underlying T with
   | some .bool=>true
   | _=>false
  | .str=>match P.underlying T with
   | some .string=>true
   | _=>false
  | .slice t=>match P.underlying T with
   | some (.slice e')=>Nat.beq e e'&&(match af E.ty e with
     | some (aT,_)=>decide (aT=t)
     | none=>false)&&(match P.info? e with
     | some i=>Nat.beq i.bytes b
     | none=>false)&&NF P e t
   | _=>false
  | .st s=>(match s.arr with
   | false=>match P.underlying T with
    | some (.struct fs)=>D6 E s 0 fs.toList s.dc
    | _=>false
   | true=>match P.underlying T with
    | some (.array n e)=>Nat.beq n s.dc.length&&s.dc.all λ t=>match af E.ty e with
     | some (aT,_)=>decide (aT=t)
     | none=>false
    | _=>false)
  | .mv _=>false
  | .ptr=>match P.underlying T with
   | some (.pointer _)=>true
   | _=>false
def PN(P:Program)(E:Env)(T:TypeId)(κ ε:Ty):Bool:=match P.underlying T with
 | some (.map k e)=>match af E.ty k,af E.ty e with
  | some (κ',_),some (ε',_)=>decide (κ'=κ)&&(decide (ε'=ε)&&(κ.Fy&&(ε.key&&Nat.blt 0 P.types.size)))
  | _,_=>false
 | _=>false
structure Info(P:Program)(T:TypeId)(τ:Ty):Prop where
 ex:∃ i z,P.info? T=some i/\i.size=τ.size/\i.zero=some z/\xv τ z=true
theorem U9{P:Program}{T:TypeId}{τ:Ty}(h:NF P T τ=true):Info P T τ:=by
 unfold NF at h;split at h
 .rename_i i hi;simp only[a9e] at h;obtain⟨h1,h2⟩:=h;split at h2
  .rename_i z hz;exact⟨i,z,hi,a8W h1,hz,h2⟩
  .cases h2
 .cases h
def tD(P:Program)(w:World)(S:Nat->Prop):Arg->Value->Prop
 | .cN v,x=>∃ f ei l,x = .func (.func f) #[] l.toArray/\zC P f ei v.ps v.r v.F []/\aM (FT w S) ei l
 | a,x=>FT w S a x
theorem tD.of0{P:Program}{w:World}{S:Nat->Prop}{a:Arg}{x:Value}(h:FT w S a x):tD P w S a x:=by
 cases a with
 | cN v=>exact h.elim
 | own v=>exact h.elim
 | box k=>exact h.elim
 | _=>exact h
def fT(P:Program)(f:FuncId)(args:List Arg)(post:List TV->Prop):Prop :=
 ∀ (w:World) (S:Nat->Prop) (bV:List Value),jf w S->aM (tD P w S) args bV ->
  Calls P f bV.toArray w λ e w'=>∃ x S' res,e = .returned x/\post res/\bI (λ _=>False) w w'/\(∀ b,b<w.heap.size->(S' b↔S b))/\(∀ b,S' b->b<w'.heap.size)/\E9 w' S' res x
def BN(w:World)(v:TV)(x:Value)(fp:List Nat):Prop :=
 match v with
 | ⟨.st s,y⟩=>∃ cs,x = .agg cs.toArray/\Ow w (s.aE y) cs fp
 | v=>Ow w v.aE [x] fp
def HC(w:World):List TV->List Value->List Nat->Prop
 | [],[],fp=>fp=[]
 | v::vs,x::xs,fp=>∃ f1 f2,fp=f1++f2/\BN w v x f1/\HC w vs xs f2
 | _,_,_=>False
def FX(w:World):List TV->Value->List Nat->Prop
 | [v],x,fp=>BN w v x fp
 | vs,x,fp=>∃ l,x = .tuple l.toArray/\HC w vs l fp
def qW(P:Program)(w:World)(S:Nat->Prop):List Arg->List Value->List Nat->Prop
 | [],[],fp=>fp=[]
 | a::Z9,x::xs,fp=>∃ f1 f2,fp=f1++f2/\(match a with
  | .own v=>BN w v x f1
  | a=>f1=[]/\tD P w S a x)/\qW P w S Z9 xs f2
 | _,_,_=>False
def xx(P:Program)(f:FuncId)(args:List Arg)(res:List TV):Prop :=
 ∀ (w:World) (S:Nat->Prop) (bV:List Value) (fa:List Nat),jf w S->qW P w S args bV fa->(fa=[]\/∀ a∈args,a.Hq=true)->fa.Nodup->(∀ b∈fa,b<w.heap.size/\¬ S b) ->
  Calls P f bV.toArray w λ e w'=>∃ x fp,e = .returned x/\bI (λ b=>b∈fa) w w'/\FX w' res x fp/\fp.Nodup/\∀ b∈fp,b∈fa\/(w.heap.size<=b/\b<w'.heap.size)
theorem qW.P2{P:Program}{w:World}{S:Nat->Prop}:∀ {Z9:List Arg} {xs:List Value},aM (tD P w S) Z9 xs->qW P w S Z9 xs []
 | [],[],_=>rfl
 | a::Z9,x::xs,h=>by
  refine⟨[],[],rfl,?_,qW.P2 h.2⟩;cases a with
  | own v=>exact h.1.elim
  | box k=>exact h.1.elim
  | _=>exact⟨rfl,h.1⟩
 | [],_::_,h=>h.elim
 | _::_,[],h=>h.elim
def Sp(P:Program)(f:FuncId)(m:Ul):Prop :=
 ∀ (x:m.τ.den) (k:Int) (w:World) (v:Value) (fp:List Nat),(m.g x k).1.ok->ai k->ZZ w (λ b=>b<w.heap.size/\b∉fp)->BN w ⟨m.τ,x⟩ v fp->fp.Nodup->(∀ b∈fp,b<w.heap.size) ->
  Calls P f #[v, .int .i64 k] w λ e w'=>e = .returned (.int .i64 (m.g x k).2.2)/\ai (m.g x k).2.2/\bI (λ b=>b∈fp) w w'/\∃ WC,BN w' ⟨m.τ,(m.g x k).2.1⟩ v WC/\WC.Nodup/\∀ b∈WC,b∈fp\/(w.heap.size<=b/\b<w'.heap.size)
def gU(w:World)(S:Nat->Prop)(B:Nat->Nat):List CK->List TV->List Value->List Nat->Prop
 | [],[],[],fp=>fp=[]
 | .d τ::ks,v::ds,x::xs,fp=>(v.τ=τ/\τ.agg=false/\Rd w S v.aE [x])/\gU w S B ks ds xs fp
 | .o τ::ks,v::ds,x::xs,fp=>∃ f1 f2,fp=f1++f2/\(v.τ=τ/\τ.agg=false/\Ow w v.aE [x] f1)/\gU w S B ks ds xs f2
 | .p j::ks,ds,x::xs,fp=>x = .pointer (some ⟨B j,0,none⟩)/\gU w S B ks ds xs fp
 | _,_,_,_=>False
def eO(w:World)(S:Nat->Prop)(B:Nat->Nat):Nat->List (List CK)->List (List TV)->List Nat->Prop
 | _,[],[],fp=>fp=[]
 | k,ks::sh,ds::bu,fp=>∃ l t f1 f2,fp=f1++f2/\w.heap[B k]?=some (.cells l.toArray t (0,0))/\gU w S B ks ds l f1/\eO w S B (k+1) sh bu f2
 | _,_,_,_=>False
def a3x(w:World)(S X:Nat->Prop):Arg->Value->Prop
 | .val v,x=>dC w S v x
 | .ref v,x=>∃ b o cs,x = .pointer (some ⟨b,o,none⟩)/\b<w.heap.size/\¬ X b/\bm w b o cs/\Rd w S v.aE cs
 | .fn f,x=>x = .func (.func f) #[] #[]
 | _,_=>False
def Rl(P:Program)(w:World)(S X:Nat->Prop)(B:Nat->Nat):Arg->Value->Prop
 | .box k,x=>x = .pointer (some ⟨B k,0,none⟩)
 | .val v,x=>dC w S v x
 | .ref v,x=>∃ b o cs,x = .pointer (some ⟨b,o,none⟩)/\b<w.heap.size/\¬ X b/\bm w b o cs/\Rd w S v.aE cs
 | .fn f,x=>x = .func (.func f) #[] #[]
 | .cN v,x=>∃ f ei l,x = .func (.func f) #[] l.toArray/\zC P f ei v.ps v.r v.F []/\aM (a3x w S X) ei l
 | .own _,_=>False
def BX(n:Nat)(B:Nat->Nat)(fa:List Nat)(b:Nat):Prop:=b∈fa\/∃ k,k<n/\b=B k
def Sq(P:Program)(f:FuncId)(sh:List (List CK))(res:List TV)(dw:List (List TV))(w:World)(S:Nat->Prop)(B:Nat->Nat)(bV:List Value)(fa:List Nat):Prop :=
 Calls P f bV.toArray w λ e w'=>∃ x S' fp Gr,e = .returned x/\bI (BX sh.length B fa) w w'/\(∀ b,S b->S' b)/\(∀ b,S' b->b<w'.heap.size)/\(∀ b,b<w.heap.size->¬ BX sh.length B fa b->(S' b↔S b)) /\
  FX w' res x fp/\eO w' S' B 0 sh dw Gr/\(fp++Gr).Nodup/\(∀ b∈fp++Gr,(b∈fa\/(w.heap.size<=b/\b<w'.heap.size))/\¬ S' b/\∀ k,k<sh.length->B k≠b)/\∀ k,k<sh.length->¬ S' (B k)
def HB(P:Program)(f:FuncId)(sh:List (List CK))(args:List Arg)(bu:List (List TV))(res:List TV)(dw:List (List TV)):Prop :=
 ∀ (w:World) (S:Nat->Prop) (B:Nat->Nat) (bV:List Value) (fa:List Nat),jf w S->eO w S B 0 sh bu fa->fa.Nodup->(∀ b∈fa,b<w.heap.size/\¬ S b/\∀ k,k<sh.length->B k≠b) ->
  (∀ k,k<sh.length->B k<w.heap.size/\¬ S (B k))->(∀ j k,j<sh.length->k<sh.length->B j=B k->j=k)->aM (Rl P w S (BX sh.length B fa) B) args bV->Sq P f sh res dw w S B bV fa
theorem fT.ok0{P:Program}{f:FuncId}{args:List Arg}{post:List TV->Prop}(h:fT P f args post):HA P f args post :=
 λ w S bV hS ha=>h w S bV hS (ha.imp λ _ _ _ hx => .of0 hx)
def Z3(w:World)(S T:Nat->Prop)(x:Value):XP->Prop
 | .box cells=>∃ b l t,x = .pointer (some ⟨b,0,none⟩)/\w.heap[b]?=some (.cells l.toArray t (0,0))/\aM (λ v x=>v.τ.agg=false/\Rd w S v.aE [x]) cells l
 | .row e τ xs=>∃ l,w.ownsRow 0 e τ.size x xs.length l/\cZ w S (xs.map τ.aE) l/\xs.length<=140737488355328
 | .res l=>∃ ys,x = .tuple ys.toArray/\aM (λ r x=>match r with
  | (true,v)=>∃ b o cs,x = .pointer (some ⟨b,o,none⟩)/\(S b\/T b)/\bm w b o cs/\Rd w S v.aE cs
  | (false,v)=>dC w S v x) l ys
def Wf(P:Program)(f:FuncId)(args:List Arg)(o:XP):Prop :=
 ∀ (w:World) (S T:Nat->Prop) (bV:List Value),jf w S->(∀ x∈bV,∀ a:Addr,x = .pointer (some a)->T a.block)->aM (tD P w S) args bV ->
  Calls P f bV.toArray w λ e w'=>∃ x S',e = .returned x/\bI (λ _=>False) w w'/\(∀ k,k<w.heap.size->(S' k↔S k))/\(∀ k,S' k->k<w'.heap.size) /\
   (∀ b,dk x=some b->w.heap.size<=b/\b<w'.heap.size/\¬ S' b)/\Z3 w' S' T x o
def SI (P:Program) (T:TypeId):Bool := !P.eqGuardType P.depth T&&(!P.stoodInHeld T&&(P.fieldsOf T).toList.all λ f=>decide (f.name ≠ "_"))
structure bn(P:Program)(E:Env):Prop where
 ty:∀ T τ b e,af E.ty T=some (τ,b,e)->oM P E T τ b e=true
 K3:∀ T κ ε,af E.K3 T=some (κ,ε)->PN P E T κ ε=true
 TT:∀ T τ,af E.TT T=some τ->True
 Kc:∀ f args pre res,E.Kc f args=some (pre,res)->pre.ok->lG P f/\fT P f args (·=res)
 Jl:∀ f args pre res,E.Jl f args=some (pre,res)->pre.ok->lG P f/\xx P f args res
 mark:∀ f m,E.mark f=some m->lG P f/\Sp P f m
 PT:∀ f args pre o,E.PT f args=some (pre,o)->pre.ok->lG P f/\Wf P f args o
 cmp:∀ T,E.cmp.contains T=true->SI P T=true
 Se:∀ f sk args bu pre res dw,E.sk f=some sk->E.Se f args bu=some (pre,res,dw)->pre.ok->lG P f/\HB P f sk.sh args bu res dw
section
variable {P:Program} {E:Env} {T:TypeId} {τ:Ty} {b e:Nat}
theorem bn.info(hE:bn P E)(h:af E.ty T=some (τ,b,e)):Info P T τ:=by
 have:=hE.ty _ _ _ _ h;unfold oM at this;simp only[Bool.and_eq_true] at this;exact U9 this.1
theorem bn.int(hE:bn P E){k:IntKind}(h:af E.ty T=some (.int k,b,e)):P.underlying T=some (.int k):=by
 have:=hE.ty _ _ _ _ h;unfold oM at this;simp only[Bool.and_eq_true] at this;have h2:=this.2;split at h2
 .rename_i k' hk;rw[hk,a9y h2]
 .cases h2
theorem bn.bool(hE:bn P E)(h:af E.ty T=some (.bool,b,e)):P.underlying T=some .bool:=by
 have:=hE.ty _ _ _ _ h;unfold oM at this;simp only[Bool.and_eq_true] at this;have h2:=this.2;split at h2
 .assumption
 .cases h2
theorem bn.str(hE:bn P E)(h:af E.ty T=some (.str,b,e)):P.underlying T=some .string:=by
 have:=hE.ty _ _ _ _ h;unfold oM at this;simp only[Bool.and_eq_true] at this;have h2:=this.2;split at h2
 .assumption
 .cases h2
theorem bn.slice(hE:bn P E){t:Ty}(h:af E.ty T=some (.slice t,b,e)) :
  P.underlying T=some (.slice e)/\(∃ b' e',af E.ty e=some (t,b',e'))/\(∃ i z,P.info? e=some i/\i.size=t.size/\i.bytes=b/\i.zero=some z/\xv t z=true):=by
 have:=hE.ty _ _ _ _ h;unfold oM at this;simp only[Bool.and_eq_true] at this;have h2:=this.2;split at h2
 .rename_i e' yJ;simp only[a9e] at h2;obtain⟨⟨⟨h3,h4⟩,h5⟩,h6⟩:=h2;have h3:=a8W h3;subst h3;split at h4
  .rename_i aT r hl;have h4:=a9y h4;subst h4;obtain⟨i,z,hi,hs,hz,hzo⟩:=(U9 h6).ex;rw[hi] at h5;exact⟨yJ,⟨_,_,hl⟩,i,z,hi,hs,a8W h5,hz,hzo⟩
  .cases h4
 .cases h2
theorem Im{s:aG}:∀ (n:Nat) (fs:List Field) (ts:List Ty),D6 E s n fs ts=true->fs.length=ts.length /\
  ∀ i f,fs[i]?=some f->∃ t b e,ts[i]?=some t/\af E.ty f.type=some (t,b,e)/\f.offset=s.dx (n+i)
 | _,[],[],_=>⟨rfl,by simp⟩
 | n,f::fs,t::ts,h=>by
  simp only[D6,a9e] at h;obtain⟨⟨h1,h2⟩,h3⟩:=h;obtain⟨h4,h5⟩:=Im (n+1) fs ts h3;refine⟨by simp[h4],λ i g hi=>?_⟩;cases i with
  | zero =>
   simp at hi;subst hi;split at h1
   .rename_i τ r hl;have h1:=a9y h1;subst h1;exact⟨_,_,_,rfl,hl,a8W h2⟩
   .cases h1
  | succ i =>
   obtain⟨t',b',e',k1,k2,k3⟩:=h5 i g (by simpa using hi);exact⟨t',b',e',by simpa using k1,k2,by rw[k3];congr 1;omega⟩
 | _,[],_::_,h=>by cases h
 | _,_::_,[],h=>by cases h
theorem bn.st(hE:bn P E){s:aG}(h:af E.ty T=some (.st s,b,e))(ha:s.arr=false) :
  ∃ fs,P.underlying T=some (.struct fs)/\fs.size=s.dc.length/\∀ i f,fs[i]?=some f->∃ t b e,s.dc[i]?=some t/\af E.ty f.type=some (t,b,e)/\f.offset=s.dx i:=by
 have:=hE.ty _ _ _ _ h;unfold oM at this;simp only[Bool.and_eq_true,ha] at this;have h2:=this.2;split at h2
 .rename_i fs hfs;obtain⟨h3,h4⟩:=Im 0 _ _ h2;refine⟨fs,hfs,by simpa using h3,λ i f hi=>?_⟩;obtain⟨t,b',e',k1,k2,k3⟩:=h4 i f (by simpa using hi);exact⟨t,b',e',k1,k2,by simpa using k3⟩
 .cases h2
theorem bn.arr(hE:bn P E){s:aG}(h:af E.ty T=some (.st s,b,e))(ha:s.arr=true) :
  ∃ e',P.underlying T=some (.array s.dc.length e')/\∀ t∈s.dc,∃ b e,af E.ty e'=some (t,b,e):=by
 have:=hE.ty _ _ _ _ h;unfold oM at this;simp only[Bool.and_eq_true,ha] at this;have h2:=this.2;split at h2
 .rename_i n e' hu;simp only[a9e,a9H] at h2;refine⟨e',by rw[hu,a8W h2.1],λ t ht=>?_⟩;have h3:=h2.2 t ht;split at h3
  .rename_i aT r hl;have h3:=a9y h3;subst h3;exact⟨_,_,hl⟩
  .cases h3
 .cases h2
theorem a3r(k n:Nat):(List.replicate k n).sum=k * n:=by
 induction k with
 | zero=>simp
 | succ k ih=>rw[b2d,b3d,Nat.succ_mul,Nat.add_comm,ih]
theorem bn.SB(hE:bn P E){n:aG}(h:af E.ty T=some (.st n,b,e))(ha:n.arr=true){i:Nat}{t:Ty}(hi:n.dc[i]?=some t) :
  ∃ e',P.underlying T=some (.array n.dc.length e')/\(∃ b' e2,af E.ty e'=some (t,b',e2))/\n.dx i=i * t.size:=by
 obtain⟨e',h1,h2⟩:=hE.arr h ha;obtain⟨b',e2,h3⟩:=h2 t (a9C hi);refine⟨e',h1,⟨b',e2,h3⟩,?_⟩;have iu:∀ u∈n.dc,u=t:=λ u hu=>by
  obtain⟨b3,e3,h4⟩:=h2 u hu;rw[h3] at h4;cases h4;rfl
 have hlen:=(List.getElem?_eq_some_iff.1 hi).1;unfold aG.dx;rw[show n.dc=List.replicate n.dc.length t from List.eq_replicate_iff.2 ⟨rfl,iu⟩];simp only[List.take_replicate,List.map_replicate,List.length_replicate,Nat.min_eq_left (Nat.le_of_lt hlen)];exact a3r i t.size
theorem bn.a1B(hE:bn P E){t:Ty}(h:af E.ty T=some (.mv t,b,e)):False:=by
 have:=hE.ty _ _ _ _ h;unfold oM at this;simp at this
theorem bn.ptr(hE:bn P E)(h:af E.ty T=some (.ptr,b,e)):∃ t,P.underlying T=some (.pointer t):=by
 have:=hE.ty _ _ _ _ h;unfold oM at this;simp only[Bool.and_eq_true] at this;have h2:=this.2;split at h2
 .rename_i t ht;exact⟨t,ht⟩
 .cases h2
theorem bn.isAgg(hE:bn P E)(h:af E.ty T=some (τ,b,e))(w:World):(isAgg T).run P w = .ok τ.agg w:=by
 cases τ with
 | int k=>simp[Go.isAgg,a9I (hE.int h)];rfl
 | bool=>simp[Go.isAgg,a9I (hE.bool h)];rfl
 | str=>simp[Go.isAgg,a9I (hE.str h)];rfl
 | slice t=>simp[Go.isAgg,a9I (hE.slice h).1];rfl
 | st s =>
  cases ha:s.arr with
  | false=>obtain⟨fs,h1,_⟩:=hE.st h ha;simp[Go.isAgg,a9I h1];rfl
  | true=>obtain⟨e',h1,_⟩:=hE.arr h ha;simp[Go.isAgg,a9I h1];rfl
 | mv t=>exact (hE.a1B h).elim
 | ptr=>obtain⟨t,ht⟩:=hE.ptr h;simp[Go.isAgg,a9I ht];rfl
theorem bn.sizeOf(hE:bn P E)(h:af E.ty T=some (τ,b,e))(w:World):(sizeOf T).run P w = .ok τ.size w:=by
 obtain⟨i,z,h1,h2,_⟩:=(hE.info h).ex;simp[Go.sizeOf,typeInfo,h1,h2]
theorem Ty.eN{τ:Ty}(h:τ.agg=false):τ.size=1:=by cases τ<;>first|rfl|cases h
theorem aG.size_pos(s:aG):0<s.size:=by cases s<;>decide
theorem Ty.size_pos(τ:Ty):0<τ.size:=by cases τ<;>first|exact Nat.one_pos|exact aG.size_pos _
def yZ(τ:Ty)(cs:List Value):Value :=
 match τ with
 | .st _ => .agg cs.toArray
 | _=>cs.getD 0 undef
theorem gF(hE:bn P E)(h:af E.ty T=some (τ,b,e)){w:World}{bk o:Nat}{cs:List Value}(hc:bm w bk o cs)(hl:cs.length=τ.size) :
  (Instr.loadAt T (.pointer (some ⟨bk,o,none⟩))).run P w = .ok (yZ τ cs) w:=by
 have Kv:∀ j v,cs[j]?=some v->w.cell? ((⟨bk,o,none⟩:Addr).add j)=some v:=λ j v hj=>by rw[b1o];exact hc j v hj
 simp only[Instr.loadAt,Instr.sureAddr,loadVar,a9r,a9u,a9m,hE.isAgg h];cases ep:τ.agg with
 | true =>
  simp only[b0Y,a9r,hE.sizeOf h,a9m];rw[<-hl,run_loadCells_list w _ cs Kv];cases τ<;>first|rfl|cases ep
 | false =>
  have h1:cs.length=1:=hl.trans (Ty.eN ep);match cs,h1 with
  | [v],_ =>
   have:=hc 0 v rfl;simp only[b0P] at this;simp[run_load,this];cases τ<;>first|rfl|cases ep
end
section
variable {c:Ctx} {G:Gh} {lk:Nat->Option av} {w:World}
theorem C1.ft{v:AV}{x:Value}(h:C1 c G lk w v x):VR c G lk w v x:=by
 cases v with
 | aN v =>
  obtain⟨τ,y⟩:=v;cases τ with
  | st s=>cases h.1
  | _=>exact h.2
 | agg cs=>exact h.elim
 | gb vs=>exact h.elim
 | cN f cs=>exact h.elim
 | _=>exact h
theorem VR.Si{v:AV}{x:Value}(h:VR c G lk w v x)(hc:v.cell=true):C1 c G lk w v x:=by
 cases v with
 | aN v =>
  obtain⟨τ,y⟩:=v;cases τ with
  | st s=>cases hc
  | _=>exact⟨rfl,h⟩
 | agg cs=>cases hc
 | gb vs=>cases hc
 | cN f cs=>cases hc
 | any=>cases hc
 | _=>exact h
theorem iz{v:TV}(h:v.τ.agg=false):v.aE.leaf=true:=by
 obtain⟨τ,y⟩:=v;cases τ<;>first|rfl|exact K4 _ _ _|cases h
theorem C1.leaf{v:AV}{x:Value}(h:C1 c G lk w v x)(hc:v.cell=true):x.oneCell'=true/\x.cells = #[x]:=by
 cases v with
 | any=>cases hc
 | dR=>cases hc
 | agg cs=>cases hc
 | gb cs=>cases hc
 | cN f cs=>cases hc
 | gv v=>cases hc
 | aN v =>
  obtain⟨y,h1,h2⟩:=Rd.rZ (iz h.1) h.2;simp only[a9a,a9q] at h1;subst h1;exact⟨xb h2,I9 h2⟩
 | nil=>rw[show x=_ from h];exact⟨rfl,rfl⟩
 | cS v=>obtain⟨b,o,cs,rfl,_⟩:=h;exact⟨rfl,rfl⟩
 | ptr i o=>obtain⟨b,_,rfl,_⟩:=h;exact⟨rfl,rfl⟩
 | row i=>obtain⟨_,_,a,n,m,rfl⟩:=h;exact⟨rfl,rfl⟩
 | aC i=>obtain⟨_,_,_,a,n,m,rfl⟩:=h;exact⟨rfl,rfl⟩
 | sub i k o z=>obtain⟨_,_,_,_,_,_,_,_,a,n,m,rfl⟩:=h;exact⟨rfl,rfl⟩
 | eo i k o z=>cases hc
 | dX i k o=>obtain⟨b,n,cap,e,τ,xs,_,_,_,rfl⟩:=h;exact⟨rfl,rfl⟩
 | fn f=>rw[show x=_ from h];exact⟨rfl,rfl⟩
 | mp i=>obtain⟨_,_,b,rfl⟩:=h;exact⟨rfl,rfl⟩
theorem dC.cells{S:Nat->Prop}{v:TV}{x:Value}(h:dC w S v x):Rd w S v.aE x.cells.toList:=by
 obtain⟨τ,y⟩:=v;cases τ with
 | st s =>
  obtain⟨cs,rfl,h⟩:=h;show Rd w S (s.aE y) _;simpa [Value.cells] using h
 | _ =>
  obtain⟨z,h1,h2⟩:=Rd.rZ (iz rfl) h;simp only[a9a,a9q] at h1;subst h1;rw[I9 h2];exact h
theorem zD.of{τ:Ty}(ep:τ.Fy=true){x:τ.den}{v:Value}{S:Nat->Prop}(h:dC w S ⟨τ,x⟩ v):zD τ x v:=by
 cases τ with
 | st s =>
  obtain⟨cs,rfl,h2⟩:=h;simp only[Ty.Fy,a9e,a9d] at ep;have ht:=aG.iQ s x;rw[ep.2.1] at ht;rw[aG.bQ] at h2;match hc:s.cells x,ht,h2 with
  | [⟨Nw,a⟩,⟨je,b⟩],ht,h2 =>
   simp only[hc,a9x,b0y,a9a,a9q] at ht;obtain⟨rfl,rfl⟩:=ht;simp only[hc,a9x,b0y,TV.aE,Ty.aE,Rd,cJ] at h2;obtain⟨v1,r1,rfl,⟨e1,q1⟩,v2,r2,rfl,⟨e2,q2⟩,rfl⟩:=h2;simp only[a9a,a9q] at e1 e2;subst e1 e2;exact⟨a,b,hc,rfl,q1,q2⟩
 | int q=>exact nI.of (τ := .int q) (w:=w) (S:=S) rfl h
 | bool=>exact nI.of (τ := .bool) (w:=w) (S:=S) rfl h
 | str=>exact nI.of (τ := .str) (w:=w) (S:=S) rfl h
 | _=>cases ep
theorem dC.mk_{S:Nat->Prop}{v:TV}{cs:List Value}(h:Rd w S v.aE cs):dC w S v (yZ v.τ cs):=by
 obtain⟨τ,y⟩:=v;cases τ with
 | st s=>exact⟨cs,rfl,h⟩
 | _ =>
  obtain⟨z,rfl,h2⟩:=Rd.rZ (iz rfl) h;exact h
def SX(G:Gh)(lk:Nat->Option av)(b:Nat):Prop:=G.S b\/(∃ id e τ xs,lk id=some (.row e τ xs)/\dk (G.η id)=some b)\/∃ id τ xs,lk id=some (.aC τ xs)/\b∈G.φ id
theorem bd.V0{c:Ctx}{G:Gh}{sl:Nat->AV}{n:Nat}{lk:Nat->Option av}{a:Act}{w:World}(h:bd c G sl n lk a w):jf w (SX G lk) :=
 ⟨λ b q=>by
  rcases q with hb|⟨id,e,τ,ys,aS,hb⟩|⟨id,τ,ys,aS,hb⟩
  .exact h.dI b hb
  .exact (h.place id _ b aS hb).2.2
  .exact (h.aO.pl id _ _ b aS hb).2.2.1,h.ZC.2.mono (λ _ q => .inl q) λ _ _=>rfl⟩
theorem SX.of{b:Nat}(h:G.S b):SX G lk b := .inl h
theorem Yv{id:Nat}{e:TypeId}{τ:Ty}{xs:List τ.den}(ho:OR c G lk w id (.row e τ xs))(aS:lk id=some (.row e τ xs)):Rd w (SX G lk) (Ty.aE (.slice τ) xs) [G.η id]:=by
 obtain⟨l,h1,h2,h3⟩:=ho;rcases h1.2 with ⟨hv,hn⟩|⟨g,cap,cur,hv,_,hh,QY,WU,iG,htk⟩
 .have hx:xs=[]:=b0d hn;subst hx;exact⟨none,0,by simp[hv],by simp,by simp[maxLen],by simp, .inl rfl⟩
 .refine⟨some ⟨g,0,none⟩,cap,by simp[hv],by simpa using QY,WU,by simpa using h3,?_⟩;refine .inr ⟨g,0,rfl, .inr (.inl ⟨id,e,τ,xs,aS,by rw[hv];rfl⟩),?_⟩;refine cZ.row _ g 0 (h2.aL (λ _ h=>SX.of h) (λ _ _=>rfl)) λ j v hj=>?_;have:=h1.cells (g:=g) (by rw[hv];rfl) j v hj;rw[Addr.add_lit] at this;exact this
theorem ic.rd{S:Nat->Prop}{η:Value}{τ:Ty}{xs:List τ.den}{fp:List Nat}(h:ic w η τ xs fp){x:Value}{l:List Value}(hx:η = .tuple (x::l).toArray)(hS:∀ b∈fp,S b):Rd w S (Ty.aE (.slice τ) xs) [x]:=by
 obtain⟨v,l',a,cap,h1,h2,h3,h4,h5,h6⟩:=h;rw[hx] at h1;simp only[Value.tuple.injEq,List.toArray_inj,List.cons.injEq] at h1;obtain⟨rfl,rfl⟩:=h1;refine⟨a,cap,by simp[h2],by simpa using h3,h4,by simpa using h5,?_⟩;rcases h6 with ⟨rfl,_,_⟩|⟨b,f,t,rfl,rfl,k1,_,k2⟩
 .exact .inl rfl
 .exact .inr ⟨b,0,rfl,hS b (by simp),bJ.rd _ (p:=[]) (by simpa using k1) k2 λ b hb=>hS b (by simp[hb])⟩
theorem a2u(oP:FY c G lk w){id:Nat}{τ:Ty}{xs:List τ.den}{x:Value}(aS:lk id=some (.aC τ xs))(hx:C1 c G lk w (.aC id) x):Rd w (SX G lk) (Ty.aE (.slice τ) xs) [x]:=by
 obtain⟨_,l,h2,_⟩:=hx;exact (oP.tr id τ xs aS).rd h2 λ b hb => .inr (.inr ⟨id,τ,xs,aS,hb⟩)
theorem a4P(oP:FY c G lk w)(ji:∀ id o,lk id=some o->OR c G lk w id o){lk':Nat->Option av}(bS:∀ id o,lk' id=some o->lk id=some o){τ:Ty}{v:AV}{x:Value}{y:τ.den}(h:iH lk' τ v=some y)
  (hv:C1 c G lk w v x):Rd w (SX G lk) (τ.aE y) [x]:=by
 cases v with
 | aN u =>
  have e:=TV.aQ h;subst e;exact Rd.aL (λ _ h=>SX.of h) (λ _ _=>rfl) _ hv.2
 | nil =>
  cases τ with
  | slice t =>
   simp only[iH,a8V] at h;subst h;exact⟨none,0,by rw[show x=_ from hv];rfl,by simp,by simp[maxLen],by simp, .inl rfl⟩
  | _=>cases h
 | row id =>
  simp only[iH] at h;split at h
  .rename_i e aT xs hl;have e1:=TV.aQ h;cases e1;have oj:=bS _ _ hl;rw[hv.1];exact Yv (ji _ _ oj) oj
  .cases h
 | aC id =>
  simp only[iH] at h;split at h
  .rename_i aT xs hl;have e1:=TV.aQ h;cases e1;exact a2u oP (bS _ _ hl) hv
  .cases h
 | _=>cases h
theorem a2F{lk':Nat->Option av}(iv:∀ id e τ xs,lk' id≠some (.row e τ xs))(MT:∀ id τ xs,lk' id≠some (.aC τ xs)){τ:Ty}{v:AV}{x:Value}{y:τ.den}(h:iH lk' τ v=some y)(hv:C1 c G lk w v x):Rd w G.S (τ.aE y) [x]:=by
 cases v with
 | aN u =>
  have e:=TV.aQ h;subst e;exact hv.2
 | nil =>
  cases τ with
  | slice t =>
   simp only[iH,a8V] at h;subst h;exact⟨none,0,by rw[show x=_ from hv];rfl,by simp,by simp[maxLen],by simp, .inl rfl⟩
  | _=>cases h
 | row id =>
  simp only[iH] at h;split at h
  .rename_i hl;exact absurd hl (iv _ _ _ _)
  .cases h
 | aC id =>
  simp only[iH] at h;split at h
  .rename_i hl;exact absurd hl (MT _ _ _)
  .cases h
 | _=>cases h
theorem HN{τ:Ty}{v:AV}{x:Value}{y:τ.den}(h:iH (λ _=>none) τ v=some y)(hv:C1 c G lk w v x):Rd w G.S (τ.aE y) [x]:=by
 cases v with
 | aN u =>
  have e:=TV.aQ h;subst e;exact hv.2
 | nil =>
  cases τ with
  | slice t =>
   simp only[iH,a8V] at h;subst h;exact⟨none,0,by rw[show x=_ from hv];rfl,by simp,by simp[maxLen],by simp, .inl rfl⟩
  | _=>cases h
 | _=>cases h
theorem LH{lk':Nat->Option av}{R:TV->Value->Prop}{Q:AV->Value->Prop}(hR:∀ t v x y,iH lk' t v=some y->Q v x->R ⟨t,y⟩ x):∀ {cs:List AV} {ts:List Ty} {l:List TV} {vs:List Value},Oc lk' cs ts=some l->aM Q cs vs->aM R l vs
 | [],[],l,vs,h,k=>by
  simp only[Oc,a8V] at h;subst h;match vs,k with
  | [],_=>trivial
 | v::cs,t::ts,l,vs,h,k=>by
  simp only[Oc] at h;split at h
  .rename_i x hx;split at h
   .rename_i r hr;simp only[a8V] at h;subst h;match vs,k with
    | u::us,k=>exact⟨hR _ _ _ _ hx k.1,LH hR hr k.2⟩
   .cases h
  .cases h
 | [],_::_,_,_,h,_=>by cases h
 | _::_,[],_,_,h,_=>by cases h
theorem zH{S:Nat->Prop}{lk':Nat->Option av}(h1:∀ τ v x (y:τ.den),iH lk' τ v=some y->C1 c G lk w v x->Rd w S (τ.aE y) [x])(hS:∀ b,G.S b->S b)
  {τ:Ty} {v:AV} {x:Value} {y:τ.den} (h:qt lk' τ v=some y) (hv:VR c G lk w v x):dC w S ⟨τ,y⟩ x:=by
 have fD:∀ (uF:∀ cs,v ≠ .agg cs),iH lk' τ v=some y->dC w S ⟨τ,y⟩ x:=by
  intro uF ha;cases v with
  | aN u =>
   have e:=TV.aQ ha;subst e;exact dC.mono (G:=G) (G':=⟨S,G.η,G.φ⟩) hv hS (λ _ _=>rfl)
  | nil =>
   have:=h1 τ .nil x y ha hv;cases τ with
   | st s=>cases ha
   | _=>exact this
  | row i =>
   have:=h1 τ (.row i) x y ha hv;cases τ with
   | st s =>
    simp only[iH] at ha;split at ha
    .have e:=TV.aQ ha;cases e
    .cases ha
   | _=>exact this
  | aC i =>
   have:=h1 τ (.aC i) x y ha hv;cases τ with
   | st s =>
    simp only[iH] at ha;split at ha
    .have e:=TV.aQ ha;cases e
    .cases ha
   | _=>exact this
  | agg cs=>exact absurd rfl (uF cs)
  | _=>cases ha
 cases v with
 | agg cs =>
  cases τ with
  | st s =>
   simp only[qt] at h;split at h
   .rename_i l hl;obtain⟨vs,rfl,xT⟩:=hv;refine⟨vs,rfl,?_⟩;rw[aG.bQ,aG.mA h];exact cJ.sC.2 (LH (λ t u z k hk hz=>h1 t u z k hk hz) hl xT)
   .cases h
  | _=>cases h
 | _=>exact fD (by intro cs;simp) h
theorem wg(oP:FY c G lk w)(ji:∀ id o,lk id=some o->OR c G lk w id o){lk':Nat->Option av}(bS:∀ id o,lk' id=some o->lk id=some o){τ:Ty}{v:AV}{x:Value}{y:τ.den}(h:qt lk' τ v=some y)
  (hv:VR c G lk w v x):dC w (SX G lk) ⟨τ,y⟩ x :=
 zH (λ τ v x y h hv=>a4P oP ji bS h hv) (λ _ h=>SX.of h) h hv
theorem Co{lk':Nat->Option av}(iv:∀ id e τ xs,lk' id≠some (.row e τ xs))(MT:∀ id τ xs,lk' id≠some (.aC τ xs)){τ:Ty}{v:AV}{x:Value}{y:τ.den}(h:qt lk' τ v=some y)(hv:VR c G lk w v x):dC w G.S ⟨τ,y⟩ x :=
 zH (λ τ v x y h hv=>a2F iv MT h hv) (λ _ h=>h) h hv
theorem yh{τ:Ty}{v:AV}{x:Value}{y:τ.den}(h:qt (λ _=>none) τ v=some y)(hv:VR c G lk w v x):dC w G.S ⟨τ,y⟩ x :=
 zH (λ τ v x y h hv=>HN h hv) (λ _ h=>h) h hv
theorem xE{τ:Ty}{v:AV}{x:Value}{new:List AV}(h:cellsOf τ v=some new)(hv:VR c G lk w v x) :
  aM (C1 c G lk w) new x.cells.toList/\(∀ u∈x.cells.toList,u.oneCell'=true)/\new.length=τ.size:=by
 have one:v.cell=true->new=[v]->τ.size=1->aM (C1 c G lk w) new x.cells.toList/\(∀ u∈x.cells.toList,u.oneCell'=true)/\new.length=τ.size:=by
  intro hc hn hs;subst hn;have h1:=hv.Si hc;obtain⟨h2,h3⟩:=h1.leaf hc;rw[h3];exact⟨⟨h1,U⟩,by simpa using h2,by simp[hs]⟩
 cases τ with
 | st s =>
  simp only[cellsOf] at h;split at h
  .rename_i u;split at h
   .rename_i y hy;simp only[a8V] at h;subst h;have e:=TV.aQ hy;subst e;obtain⟨cs,rfl,hr⟩:=hv;rw[aG.bQ] at hr;have ha:=cJ.sC.1 hr;refine⟨?_,?_,by simp[Ty.size,aG.fF]⟩
    .simp only[Value.cells];refine aM.dH _ (ha.imp λ u z hu hz=>⟨?_,hz⟩);have:=aG.nz s y u hu;obtain⟨aT,z'⟩:=u;cases aT with
     | st s'=>simp[TV.aE,Ty.aE,aG.bQ,D.leaf] at this
     | _=>rfl
    .simp only[Value.cells];intro u hu;obtain⟨i,hi,hiu⟩:=b0K hu;have hlen:=ha.length;obtain⟨b,hb,hr'⟩:=ha.at_ i (s.cells y)[i] (a9j (by omega));have cm:b=u:=by
      have:cs[i]?=some u:=by rw[a9j hi,hiu]
      rw[this] at hb;exact (b0g hb).symm
     subst cm;obtain⟨z,h1,h2⟩:=Rd.rZ (aG.nz s y _ (b0G _)) hr';simp only[a9a,a9q] at h1;subst h1;exact xb h2
   .cases h
  .rename_i cs;split at h
   .rename_i hb;simp only[Option.some.injEq] at h;subst h;simp only[Bool.and_eq_true] at hb;obtain⟨l,rfl,hl⟩:=hv;refine⟨by simpa [Value.cells] using hl,?_,by simpa [Ty.size] using Nat.eq_of_beq_eq_true hb.1⟩;simp only[Value.cells];intro u hu;obtain⟨i,hi,hiu⟩:=List.getElem_of_mem hu;have hlen:=hl.length;obtain⟨b,cm,hr'⟩:=hl.at_ i cs[i] (List.getElem?_eq_getElem (by omega));have hbu:b=u:=by
     have:l[i]?=some u:=by rw[a9j hi,hiu]
     rw[this] at cm;exact (b0g cm).symm
    subst hbu;exact (hr'.leaf (a9H.1 hb.2 _ (b0G _))).1
   .cases h
  .cases h
 | int k =>
  simp only[cellsOf] at h;split at h
  .rename_i hc;simp only[a8V] at h;exact one hc h.symm rfl
  .cases h
 | bool =>
  simp only[cellsOf] at h;split at h
  .rename_i hc;simp only[a8V] at h;exact one hc h.symm rfl
  .cases h
 | str =>
  simp only[cellsOf] at h;split at h
  .rename_i hc;simp only[a8V] at h;exact one hc h.symm rfl
  .cases h
 | ptr =>
  simp only[cellsOf] at h;split at h
  .rename_i hc;simp only[a8V] at h;exact one hc h.symm rfl
  .cases h
 | mv t =>
  simp only[cellsOf] at h;split at h
  .rename_i hc;simp only[a8V] at h;exact one hc h.symm rfl
  .cases h
 | slice t =>
  simp only[cellsOf] at h;split at h
  .rename_i hc;simp only[a8V] at h;exact one hc h.symm rfl
  .cases h
theorem CS{cs:List AV}{l:List Value}(hl:aM (C1 c G lk w) cs l){off:Nat}{τ:Ty}{u:AV}(h:D7 cs off τ=some u) :
  VR c G lk w u (yZ τ ((l.drop off).take τ.size))/\((l.drop off).take τ.size).length=τ.size/\off+τ.size<=l.length:=by
 have hlen:=hl.length;have one:τ.size=1->(∀ s,τ ≠ .st s)->cs[off]?=some u->VR c G lk w u (yZ τ ((l.drop off).take τ.size))/\((l.drop off).take τ.size).length=τ.size/\off+τ.size<=l.length:=by
  intro hs cd hu;obtain⟨x,hx,hr⟩:=hl.at_ off u hu;have bj:off<l.length:=(a9p.1 hx).1;have he:(l.drop off).take 1=[x]:=by
   rw[b1j bj];have:=(a9p.1 hx).2;simp[this]
  rw[hs,he];refine⟨?_,rfl,by omega⟩;have:yZ τ [x]=x:=by cases τ<;>first|rfl|exact absurd rfl (cd _)
  rw[this];exact hr.ft
 cases τ with
 | st s =>
  simp only[D7] at h;split at h
  .rename_i hb;simp only[a8V] at h;subst h;have hle:=a9V hb;refine⟨⟨_,rfl,(hl.drop off).take s.size⟩,?_,?_⟩
   .simp only[Ty.size,a9W,b0h];omega
   .simp only[Ty.size];omega
  .cases h
 | int k=>exact one rfl (by intro s;simp) h
 | bool=>exact one rfl (by intro s;simp) h
 | str=>exact one rfl (by intro s;simp) h
 | slice t=>exact one rfl (by intro s;simp) h
 | mv t=>exact one rfl (by intro s;simp) h
 | ptr=>exact one rfl (by intro s;simp) h
theorem bm.part{bk o:Nat}{l:List Value}(h:bm w bk o l)(off n:Nat):bm w bk (o+off) ((l.drop off).take n):=λ j v hj=>by
 rw[b0i] at hj;split at hj
 .rw[b1e] at hj;have:=h (off+j) v hj;rwa [<-b2o] at this
 .cases hj
theorem bm.of_heap{bk:Nat}{l:List Value}{t:TypeId}{fr:Nat×Nat}(h:w.heap[bk]?=some (.cells l.toArray t fr)):bm w bk 0 l:=λ j v hj=>by
 simp only[World.cell?,h,Nat.zero_add,Option.isSome_none];simpa using hj
theorem Xs{S:Nat->Prop}{v u:TV}{off:Nat}{τ:Ty}(h:v.part off τ=some u){l:List Value}(hl:Rd w S v.aE l) :
  u.τ=τ/\((l.drop off).take τ.size).length=τ.size/\Rd w S u.aE ((l.drop off).take τ.size):=by
 have hlen:=Rd.length _ hl;rw[show v.aE=v.τ.aE v.x from rfl,Ty.cq] at hlen;unfold TV.part at h;split at h
 .rename_i hb;simp only[a9e] at hb;simp only[a8V] at h;subst h;have h0:=a8W hb.1;have h1:=a9y hb.2;subst h0;subst h1;rw[b2i,a9A (by omega)];exact⟨rfl,hlen,hl⟩
 .split at h
  .rename_i z hz;split at h
   .rename_i hb;simp only[a8V] at h;subst h;have h1:=a9y hb;subst h1;obtain⟨aT,y⟩:=v;have key:∀ (x:Value),l[off]?=some x->z.τ.agg=false->Rd w S z.aE [x]->z.τ=z.τ/\((l.drop off).take z.τ.size).length=z.τ.size/\Rd w S z.aE ((l.drop off).take z.τ.size):=by
     intro x hx ha hr;have bj:off<l.length:=(a9p.1 hx).1;have he:(l.drop off).take 1=[x]:=by
      rw[b1j bj];have:=(a9p.1 hx).2;simp[this]
     rw[Ty.eN ha,he];exact⟨rfl,rfl,hr⟩
    cases aT with
    | st s =>
     simp only[TV.cells] at hz;rw[show TV.aE ⟨.st s,y⟩=s.aE y from rfl,aG.bQ] at hl;obtain⟨x,hx,hr⟩:=(cJ.sC.1 hl).at_ off z hz;refine key x hx ?_ hr;have:=aG.nz s y z (a9C hz);obtain⟨a7L,z'⟩:=z;cases a7L with
     | st s'=>simp[TV.aE,Ty.aE,aG.bQ,D.leaf] at this
     | _=>rfl
    | _ =>
     simp only[TV.cells] at hz;cases off with
     | zero =>
      simp at hz;subst hz;obtain⟨x,rfl,_⟩:=Rd.rZ (iz rfl) hl;exact key x rfl rfl hl
     | succ k=>simp at hz
   .cases h
  .cases h
theorem Sb{id:Nat}{e:TypeId}{τ:Ty}{xs:List τ.den}(ho:OR c G lk w id (.row e τ xs)){b n cap:Nat}(fg:G.η id = .slice (some ⟨b,0,none⟩) n cap){i:Nat}(hi:i<xs.length) :
  ∃ cs,cs.length=τ.size/\bm w b (i * τ.size) cs/\Rd w G.S (τ.aE (xs.getD i τ.zero)) cs:=by
 obtain⟨l,h1,h2,h3⟩:=ho;have bZ:∀ d∈xs.map τ.aE,d.size=τ.size:=by
  intro d hd;obtain⟨y,_,rfl⟩:=a9b.1 hd;exact Ty.cq τ y
 have Y9:=cZ.length _ h2 bZ;have Ks:=cZ.at_ _ h2 bZ i (τ.aE (xs.getD i τ.zero)) (by simp[List.getD,hi]);have hlen:=Rd.length _ Ks;rw[Ty.cq] at hlen;refine⟨_,hlen,?_,Ks⟩;have hc:bm w b 0 l:=λ j v hj=>by
  have:=h1.cells (g:=b) (by rw[fg];rfl) j v hj;rwa [b1o] at this
 have:=hc.part (i * τ.size) τ.size;rwa [b0t] at this
theorem Xw{S:Nat->Prop}{v:TV}{l:List Value}(hl:Rd w S v.aE l):aM (λ u x=>u.τ.agg=false/\Rd w S u.aE [x]) v.cells l:=by
 obtain⟨τ,y⟩:=v;have one:τ.agg=false->TV.cells ⟨τ,y⟩=[⟨τ,y⟩]->aM (λ u x=>u.τ.agg=false/\Rd w S u.aE [x]) (TV.cells ⟨τ,y⟩) l:=λ ha h=>by
  rw[h];have hlen:=Rd.length _ hl;rw[show TV.aE ⟨τ,y⟩=τ.aE y from rfl,Ty.cq,Ty.eN ha] at hlen;match l,hlen,hl with
  | [x],_,hl=>exact⟨⟨ha,hl⟩,U⟩
 cases τ with
 | st s =>
  rw[show TV.aE ⟨.st s,y⟩=s.aE y from rfl,aG.bQ] at hl;have ha:∀ u∈s.cells y,u.τ.agg=false:=λ u hu=>by
   have h1:u.τ∈s.nr:=by rw[<-aG.iQ s y];exact a9b.2 ⟨u,hu,rfl⟩
   revert h1;have:∀ t∈s.nr,t.agg=false:=by cases s<;>decide
   exact this _
  have h2:=cJ.sC.1 hl;exact h2.imp λ u x hu hx=>⟨ha u hu,hx⟩
 | _=>exact one rfl rfl
theorem VA{v:TV}{u:AV}{off:Nat}{τ:Ty}(h:v.Xr off τ=some u){l:List Value}(hl:Rd w G.S v.aE l) :
  ((l.drop off).take τ.size).length=τ.size/\VR c G lk w u (yZ τ ((l.drop off).take τ.size)):=by
 cases τ with
 | st s =>
  simp only[TV.Xr] at h;split at h
  .rename_i hb;simp only[a8V] at h;subst h;have hb:=a9V hb;have h2:=Xw hl;have hlen:=h2.length;refine⟨by simp[Ty.size];omega,_,rfl,?_⟩;exact aM.dH AV.aN (((h2.drop off).take s.size).imp λ u x _ hx=>hx)
  .cases h
 | _=>cases h
theorem ow(ji:∀ id o,lk id=some o->OR c G lk w id o){lk':Nat->Option av}(bS:∀ id o,lk' id=some o->lk id=some o){τ:Ty}{v u:AV}{x:Value}(h:ql lk' τ v=some u)(hv:VR c G lk w v x) :
  ∃ b o cs,x = .pointer (some ⟨b,o,none⟩)/\bm w b o cs/\cs.length=τ.size/\VR c G lk w u (yZ τ cs):=by
 cases v with
 | cS z =>
  simp only[ql] at h;split at h
  .rename_i hb;simp only[a8V] at h;subst h;have e:=a9y hb;subst e;obtain⟨b,o,cs,h1,h2,h3,h4⟩:=hv;refine⟨b,o,cs,h1,h3,?_,dC.mk_ h4⟩;rw[Rd.length _ h4];exact Ty.cq _ _
  .cases h
 | ptr id off =>
  simp only[ql] at h;split at h
  .rename_i cs hl;obtain⟨b,h1,h2,h3⟩:=hv;obtain⟨b',l,t,k1,k2,k3⟩:=ji _ _ (bS _ _ hl);rw[h1] at k1;simp only[b1q,a8V,b0M,a9q] at k1;subst k1;obtain⟨m1,m2,m3⟩:=CS k3 h;refine⟨b,off,_,h2,?_,m2,m1⟩;have:=(bm.of_heap k2).part off τ.size;rwa [b0t] at this
  .cases h
 | dX id i off =>
  simp only[ql] at h;split at h
  .rename_i e aT xs hl;split at h
   .rename_i z hz;simp only[a8V] at h;subst h;obtain⟨b,n,cap,e1,Nw,QG,h1,h2,h3,h4⟩:=hv;have oj:=bS _ _ hl;rw[oj] at h2;simp only[a8V,av.row.injEq] at h2;obtain⟨rfl,rfl,h2⟩:=h2;have h2:=b1V h2;subst h2;obtain⟨cs,m1,m2,m3⟩:=Sb (ji _ _ oj) h1 h3;obtain⟨p1,p2,p3⟩:=Xs (v:=⟨aT,xs.getD i aT.zero⟩) hz m3;subst p1;exact⟨b,_,_,h4,m2.part off _,p2,dC.mk_ p3⟩
   .obtain⟨b,n,cap,e1,Nw,QG,h1,h2,h3,h4⟩:=hv;have oj:=bS _ _ hl;rw[oj] at h2;simp only[a8V,av.row.injEq] at h2;obtain⟨rfl,rfl,h2⟩:=h2;have h2:=b1V h2;subst h2;obtain⟨cs,m1,m2,m3⟩:=Sb (ji _ _ oj) h1 h3;obtain⟨p2,p3⟩:=VA (v:=⟨aT,xs.getD i aT.zero⟩) h m3;exact⟨b,_,_,h4,m2.part off _,p2,p3⟩
  .cases h
 | _=>cases h
end
theorem dP{k:IntKind}{n:Int}(h:ca k n):k.min<=n/\n<=k.max:=by
 cases k<;>first
  | exact h
  | (simp only[ca,ai] at h;simp only[IntKind.min,IntKind.max,IntKind.signed,IntKind.bits,b0Y];exact⟨by omega,by omega⟩)
theorem qV{k:IntKind}{n:Int}(h:k.min<=n/\n<=k.max):k.wrap n=n:=by
 cases k<;>simp[IntKind.min,IntKind.max,IntKind.signed,IntKind.bits] at h<;>simp[IntKind.wrap,IntKind.signed,IntKind.bits]<;>(try split)<;>omega
theorem QF(n:Int):IntKind.u64.min<=IntKind.u64.wrap n/\IntKind.u64.wrap n<=IntKind.u64.max:=by
 simp[IntKind.min,IntKind.max,IntKind.signed,IntKind.bits,IntKind.wrap];omega
theorem Xj{k:IntKind}{a:Int}(h0:0<=a)(h:k.min<=a/\a<=k.max):a.toNat<2 ^ k.bits:=by
 cases k<;>simp[IntKind.min,IntKind.max,IntKind.signed,IntKind.bits] at h ⊢<;>omega
theorem YN{k:IntKind}{a b:Int}(ha0:0<=a)(CY:0<=b)(ha:k.min<=a/\a<=k.max)(hb:k.min<=b/\b<=k.max) :
  k.wrap ((BitVec.ofInt k.bits a &&& BitVec.ofInt k.bits b).toNat:Int)=((a.toNat &&& b.toNat:Nat):Int)/\k.min<=((a.toNat &&& b.toNat:Nat):Int)/\((a.toNat &&& b.toNat:Nat):Int)<=k.max:=by
 have h1:∀ x:Int,0<=x->k.min<=x/\x<=k.max->(BitVec.ofInt k.bits x).toNat=x.toNat:=λ x h0 hx=>by
  obtain⟨n,rfl⟩:=b1O h0;have:=Xj h0 hx;simp only[a9Q] at this ⊢;rw[show BitVec.ofInt k.bits (n:Int)=BitVec.ofNat k.bits n from BitVec.ofInt_natCast ..,BitVec.toNat_ofNat];exact Nat.mod_eq_of_lt this
 have hle:((a.toNat &&& b.toNat:Nat):Int)<=a:=by
  have := @Nat.and_le_left a.toNat b.toNat;omega
 have hr:k.min<=((a.toNat &&& b.toNat:Nat):Int)/\((a.toNat &&& b.toNat:Nat):Int)<=k.max:=by
  refine⟨?_,by omega⟩;have:k.min<=0:=by cases k<;>decide
  omega
 rw[BitVec.toNat_and,h1 a ha0 ha,h1 b CY hb];exact⟨qV hr,hr⟩
theorem Ob{op:BinOp}{k yk:IntKind}{a b r:Int}{p:Vc}(h:arith op k a b=some (p,r))(hp:p.ok)(hk:op = .shl\/op = .shr\/yk=k)(P:Program)(t:TypeId)(w:World) :
  (binOp op t (.int k a) (.int yk b)).run P w = .ok (.int k r) w/\k.min<=r/\r<=k.max:=by
 cases op<;>simp only[arith] at h<;>try cases h
 case add =>
  have hk:yk=k:=by simpa using hk
  subst hk;split at h<;>simp only[a8V,a8Y] at h<;>obtain⟨rfl,rfl⟩:=h
  .exact⟨by simp[binOp_add,Op.intArith],QF _⟩
  .have:=dP hp;exact⟨by simp[binOp_add,Op.intArith,qV this],this⟩
 case sub =>
  have hk:yk=k:=by simpa using hk
  subst hk;have:=dP hp;exact⟨by simp[binOp_sub,Op.intArith,qV this],this⟩
 case mul =>
  have hk:yk=k:=by simpa using hk
  subst hk;split at h<;>simp only[a8V,a8Y] at h<;>obtain⟨rfl,rfl⟩:=h
  .exact⟨by simp[binOp_mul,Op.intArith],QF _⟩
  .have:=dP hp;exact⟨by simp[binOp_mul,Op.intArith,qV this],this⟩
 case quo =>
  have hk:yk=k:=by simpa using hk
  subst hk;have:=dP hp.2;exact⟨by simp[binOp_quo,Op.intDiv,hp.1,qV this],this⟩
 case rem =>
  have hk:yk=k:=by simpa using hk
  subst hk;have:=dP hp.2;exact⟨by simp[binOp_rem,Op.intDiv,hp.1],this⟩
 case and =>
  have hk:yk=k:=by simpa using hk
  subst hk;obtain⟨h1,h2⟩:=YN hp.1 hp.2.1 (dP hp.2.2.1) (dP hp.2.2.2);exact⟨by simp only[binOp_and,Op.intBits,a9u,h1],h2⟩
 case shl =>
  have QZ:b<(k.bits:Int):=hp.2.1;have:=dP hp.2.2;have hb:min b.toNat k.bits=b.toNat:=by omega
  exact⟨by simp[binOp_shl,Op.shift,Int.not_lt.2 hp.1,hb,qV this],this⟩
 case shr =>
  have QZ:b<(k.bits:Int):=hp.2.1;have:=dP hp.2.2;have hb:min b.toNat k.bits=b.toNat:=by omega
  exact⟨by simp[binOp_shr,Op.shift,Int.not_lt.2 hp.1,hb],this⟩
theorem Ui(k:IntKind)(n:Int):k.min<=k.wrap n/\k.wrap n<=k.max:=by
 cases k<;>simp[IntKind.min,IntKind.max,IntKind.signed,IntKind.bits,IntKind.wrap]<;>omega
theorem Ur{wr:Bool}{op:BinOp}{k yk:IntKind}{a b r:Int}{p:Vc}(h:SA wr op k a b=some (p,r))(hp:p.ok)(hk:op = .shl\/op = .shr\/yk=k)(P:Program)(t:TypeId)(w:World) :
  (binOp op t (.int k a) (.int yk b)).run P w = .ok (.int k r) w/\k.min<=r/\r<=k.max:=by
 unfold SA at h;split at h
 .split at h
  .have hk:yk=k:=by simpa using hk
   subst hk;simp only[a8V,a8Y] at h;obtain⟨rfl,rfl⟩:=h;exact⟨by simp[binOp_add,Op.intArith],Ui _ _⟩
  .have hk:yk=k:=by simpa using hk
   subst hk;simp only[a8V,a8Y] at h;obtain⟨rfl,rfl⟩:=h;exact⟨by simp[binOp_sub,Op.intArith],Ui _ _⟩
  .have hk:yk=k:=by simpa using hk
   subst hk;simp only[a8V,a8Y] at h;obtain⟨rfl,rfl⟩:=h;exact⟨by simp[binOp_mul,Op.intArith],Ui _ _⟩
  .exact Ob h hp hk P t w
 .exact Ob h hp hk P t w
theorem a0s{op:BinOp}{k:IntKind}{a b:Int}{r:Bool}(h:cmp op a b=some r)(P:Program)(t:TypeId)(w:World) :
  (binOp op t (.int k a) (.int k b)).run P w = .ok (.bool r) w:=by
 cases op<;>simp only[cmp,a8V] at h<;>try cases h
 .simp only[binOp_eql,a9u];congr 2
 .simp only[binOp_neq,a9u];congr 2
 .simp[binOp_lss]
 .simp[binOp_leq]
 .simp[binOp_gtr]
 .simp[binOp_geq]
section
variable {c:Ctx} {G:Gh} {lk:Nat->Option av} {w:World}
theorem RA(a b:ByteArray):(a.toList == b.toList)=decide (a.data.toList=b.data.toList):=by
 rw[b3f,b3f];rw[Bool.eq_iff_iff];simp
theorem Wq(hE:bn c.P c.E){op:BinOp}{T:TypeId}{u v r:AV}{x y:Value}{p:Vc}{wr:Bool}(ox oy:Operand)
  (h:Wp (match af c.E.ty T with
   | some (.bool,_)=>true
   | _=>false) wr op u v=some (p,r)) (hp:p.ok) (hu:VR c G lk w u x) (hv:VR c G lk w v y) :
  ∃ z,(do eqGuard op T ox oy x y;binOp op T x y:Sem Value).run c.P w = .ok z w/\VR c G lk w r z:=by
 unfold Wp at h;split at h
 .rename_i k a k' b;obtain⟨h1,h2⟩:=hu;obtain⟨h3,h4⟩:=hv;simp only[a9a,a9q] at h1 h3;subst h1 h3;simp only[eqGuard_at_int,a9r,a9u,a9m];split at h
  .rename_i p' r' har;have key:(op = .shl\/op = .shr\/k'=k)->p'.ok->∃ z,(binOp op T (.int k a) (.int k' b)).run c.P w = .ok z w/\VR c G lk w (.aN ⟨.int k,r'⟩) z:=λ hk Tj=>by
    obtain⟨h5,h6⟩:=Ur har Tj hk c.P T w;exact⟨_,h5,rfl,h6⟩
   split at h
   .simp only[a8V,a8Y] at h;obtain⟨rfl,rfl⟩:=h;exact key (.inl rfl) hp
   .simp only[a8V,a8Y] at h;obtain⟨rfl,rfl⟩:=h;exact key (.inr (.inl rfl)) hp
   .split at h
    .rename_i hk;simp only[a8V,a8Y] at h;obtain⟨rfl,rfl⟩:=h;exact key (.inr (.inr (a9y hk).symm)) hp
    .cases h
  .split at h
   .rename_i hk;have hk:=a9y hk;subst hk;split at h
    .rename_i cc hc;simp only[a8V,a8Y] at h;obtain⟨rfl,rfl⟩:=h;exact⟨_,a0s hc c.P T w,rfl⟩
    .cases h
   .cases h
 .rename_i a b;have hu:[x]=[.bool a]:=hu;have hv:[y]=[.bool b]:=hv;simp only[a9a,a9q] at hu hv;subst hu hv;split at h
  .rename_i hT;split at hT
   .rename_i r' hl;have hb:=hE.bool hl;split at h
    .simp only[a8V,a8Y] at h;obtain⟨rfl,rfl⟩:=h;exact⟨.bool (a == b),by simp[binOp,run_equal_bool w T a b hb,eqGuard_at_bool],rfl⟩
    .simp only[a8V,a8Y] at h;obtain⟨rfl,rfl⟩:=h;exact⟨.bool !(a == b),by simp[binOp,run_equal_bool w T a b hb,eqGuard_at_bool],rfl⟩
    .cases h
   .cases hT
  .cases h
 .rename_i a b;obtain⟨s,h1,h2,h3⟩:=hu;obtain⟨s',h4,h5,h6⟩:=hv;simp only[a9a,a9q] at h1 h4;subst h1 h4;subst h2 h5;split at h
  .simp only[a8V,a8Y] at h;obtain⟨rfl,rfl⟩:=h;exact⟨.bool (s.toList == s'.toList),by simp[binOp,Op.stringOp,b2s],by rw[RA];rfl⟩
  .simp only[a8V,a8Y] at h;obtain⟨rfl,rfl⟩:=h;exact⟨.bool (!(s.toList == s'.toList)),by simp[binOp,Op.stringOp,b2s],by rw[RA];rfl⟩
  .simp only[a8V,a8Y] at h;obtain⟨rfl,rfl⟩:=h;have bZ:s.size+s'.size<=140737488355328:=by
    have:=hp;simp only[a9P] at this;exact this
   have hs2:(s++s').size=s.size+s'.size:=ByteArray.size_append;refine⟨.string (s++s'),?_,s++s',rfl,by simp,by rw[hs2];exact bZ⟩;have:¬ (((s.size+s'.size:Nat):Int)>IntKind.i64.max):=by rw[IntKind.max_i64];omega
   simp only[b2s,a9r,a9u,a9m,binOp,Op.stringOp,a9c this]
  .cases h
 .cases h
theorem AR(hE:bn c.P c.E){T:TypeId}{n:aG}{b e:Nat}(h:af c.E.ty T=some (.st n,b,e))(ha:n.arr=false){bk o:Nat}{i:Nat}(hi:i<n.dc.length)(w:World) :
  (Instr.fieldAt T (.pointer (some ⟨bk,o,none⟩)) i).run c.P w = .ok (.pointer (some ⟨bk,o+n.dx i,none⟩)) w:=by
 obtain⟨fs,h1,h2,h3⟩:=hE.st h ha;have hf:fs[i]?=some fs[i]:=a9S (by omega);obtain⟨t,b',e',h4,h5,h6⟩:=h3 i _ hf;have bZ:=hE.sizeOf h5 w;have h0:t.size≠0:=Nat.pos_iff_ne_zero.1 t.size_pos;simp[Instr.fieldAt,a9I h1,hf,Instr.sureAddr,fieldPlace,bZ,h0,b1o,h6]
theorem Xy(hE:bn c.P c.E){T:TypeId}{n:aG}{b e:Nat}(h:af c.E.ty T=some (.st n,b,e))(ha:n.arr=false){l:List Value}{i:Nat}{t:Ty}(hi:n.dc[i]?=some t)
  (hl:n.dx i+t.size<=l.length) (w:World) :
  (Instr.field T (.agg l.toArray) i).run c.P w = .ok (yZ t ((l.drop (n.dx i)).take t.size)) w:=by
 obtain⟨fs,h1,h2,h3⟩:=hE.st h ha;have bj:i<fs.size:=by have:=(a9p.1 hi).1;omega
 have hf:fs[i]?=some fs[i]:=a9S bj;obtain⟨t',b',e',h4,h5,h6⟩:=h3 i _ hf;rw[hi] at h4;simp only[a8V] at h4;subst h4;have bZ:=hE.sizeOf h5 w;have hag:=hE.isAgg h5 w;simp only[Instr.field,a9r,a9I h1,a9m,hf,asAgg,part,hag,a9u];cases ep:t.agg with
 | true =>
  simp only[b0Y,a9r,bZ,a9m,a9u,h6];cases t<;>first|(cases ep;done)|skip
  simp only[yZ,b2L,b2K,a9q];apply b2v;simp[List.take_drop]
 | false =>
  have h1:=Ty.eN ep;simp only[a9R,b1M,h6];have hx:l.toArray[n.dx i]?=some (l[n.dx i]'(by omega)):=by rw[b2P];exact a9j (by omega)
  rw[hx];simp only[a9u,h1];have he:(l.drop (n.dx i)).take 1=[l[n.dx i]'(by omega)]:=by
   rw[b1j (by omega),b2e,b1a]
  rw[he];cases t<;>first|rfl|cases ep
theorem Qf(hE:bn c.P c.E){T:TypeId}{n:aG}{b e:Nat}(h:af c.E.ty T=some (.st n,b,e))(ha:n.arr=true){bk o:Nat}{k:IntKind}{i:Nat}(hi:i<n.dc.length)(w:World) :
  (Instr.indexAt T (.pointer (some ⟨bk,o,none⟩)) (.int k (Int.ofNat i))).run c.P w = .ok (.pointer (some ⟨bk,o+n.dx i,none⟩)) w:=by
 obtain⟨e',h1,⟨b',e2,h2⟩,h3⟩:=hE.SB h ha (a9j hi);simp[Instr.indexAt,a9I h1,asIntOf,Instr.sureAddr,hi,hE.sizeOf h2 w,b1o,h3]
theorem a1M(hE:bn c.P c.E){T:TypeId}{n:aG}{b e:Nat}(h:af c.E.ty T=some (.st n,b,e))(ha:n.arr=true){l:List Value}{k:IntKind}{i:Nat}{t:Ty}(hi:n.dc[i]?=some t)
  (hl:n.dx i+t.size<=l.length) (w:World) :
  (Instr.index T (.agg l.toArray) (.int k (Int.ofNat i))).run c.P w = .ok (yZ t ((l.drop (n.dx i)).take t.size)) w:=by
 obtain⟨e',h1,⟨b',e2,h2⟩,h3⟩:=hE.SB h ha hi;have bj:=(a9p.1 hi).1;have bZ:=hE.sizeOf h2 w;have hag:=hE.isAgg h2 w;have fe:(0:Int)<=Int.ofNat i/\Int.ofNat i<((n.dc.length:Nat):Int):=⟨b3m i,Int.ofNat_lt.2 bj⟩;simp only[Instr.index,a9r,asIntOf,a9u,a9m,a9I h1,a9l fe,bZ,part,hag,show (Int.ofNat i).toNat=i from rfl,<-h3];cases ep:t.agg with
 | true =>
  simp only[b0Y,a9r,bZ,a9m,a9u];cases t<;>first|(cases ep;done)|skip
  simp only[yZ,b2L,b2K,a9q];apply b2v;simp[List.take_drop]
 | false =>
  have h1:=Ty.eN ep;simp only[a9R,b1M];have hx:l.toArray[n.dx i]?=some (l[n.dx i]'(by omega)):=by rw[b2P];exact a9j (by omega)
  rw[hx];simp only[a9u,h1];have he:(l.drop (n.dx i)).take 1=[l[n.dx i]'(by omega)]:=by
   rw[b1j (by omega),b2e,b1a]
  rw[he];cases t<;>first|rfl|cases ep
end
section
variable {c:Ctx} {G:Gh} {lk:Nat->Option av} {w:World}
theorem XN(k:IntKind):k.min<=0/\0<=k.max:=by cases k<;>decide
theorem DZ{τ:Ty}{v:Value}(h:vO τ v=true):C1 c G lk w (zeroCell τ) v:=by
 unfold vO at h;split at h
 .simp only[a9e] at h;have h1:=a9y h.1;have h2:=a9y h.2;subst h1 h2;exact⟨rfl,rfl,XN _⟩
 .rename_i b;cases b
  .exact⟨rfl,rfl⟩
  .cases h
 .rename_i s;exact⟨rfl,s,rfl,List.isEmpty_iff.1 h,by simp[List.isEmpty_iff] at h;simp[ByteArray.size,h]⟩
 .rfl
 .exact⟨rfl,_,rfl⟩
 .cases h
theorem gf{τ:Ty}{z:Value}(h:xv τ z=true):aM (C1 c G lk w) (zeroCells τ) z.cells.toList:=by
 have key:∀ (ts:List Ty) (vs:List Value),JV ts vs=true->aM (C1 c G lk w) (ts.map zeroCell) vs:=by
  intro ts;induction ts with
  | nil=>intro vs h;cases vs<;>first|trivial|cases h
  | cons t ts ih =>
   intro vs h;cases vs with
   | nil=>cases h
   | cons v vs =>
    simp only[JV,a9e] at h;exact⟨DZ h.1,ih vs h.2⟩
 have one:∀ v,vO τ v=true->v.cells = #[v]:=by
  intro v hv;unfold vO at hv;split at hv<;>first|rfl|cases hv
 unfold xv at h;split at h
 .rename_i s cs;exact key _ _ h
 .cases h
 .rename_i aT v h1 h2;rw[one _ h];have:zeroCells τ=[zeroCell τ]:=by
   cases τ<;>first|rfl|(rename_i s;cases v<;>first|exact absurd rfl (h2 s rfl)|cases h)
  rw[this];exact⟨DZ h,U⟩
theorem JW{S:Nat->Prop}{τ:Ty}{z:Value}(h:xv τ z=true):Rd w S (τ.aE τ.zero) z.cells.toList:=by
 have h1:=gf (c:=⟨{ funcs := #[],goVersion := "",platform := "",initOrder := "",godebug := "",types := #[],rt:=default,cutTypes := #[],globals := #[],inits := #[],main:=0 },{ ty:=[],TT:=[],Kc:=λ _ _=>none },w,λ _=>True,S,λ _=>none,λ _=>False,λ _=>none⟩) (G:=⟨S,λ _=>undef,λ _=>[]⟩) (lk:=λ _=>none) (w:=w) h;have cell:∀ t x,C1 ⟨{ funcs := #[],goVersion := "",platform := "",initOrder := "",godebug := "",types := #[],rt:=default,cutTypes := #[],globals := #[],inits := #[],main:=0 },{ ty:=[],TT:=[],Kc:=λ _ _=>none },w,λ _=>True,S,λ _=>none,λ _=>False,λ _=>none⟩ ⟨S,λ _=>undef,λ _=>[]⟩ (λ _=>none) w (zeroCell t) x->Rd w S (t.aE t.zero) [x]:=by
  intro t x hx;cases t with
  | slice t'=>exact HN (τ := .slice t') (v := .nil) rfl hx
  | _=>exact hx.2
 cases τ with
 | st s =>
  simp only[zeroCells] at h1;show Rd w S (s.aE s.zero) _;rw[aG.bQ];have hz:(s.cells s.zero).map TV.aE=s.nr.map λ t=>t.aE t.zero:=by cases s<;>rfl
  rw[hz];have h2:=aM.of_map _ h1;have:∀ (ts:List Ty) (vs:List Value),aM (λ t x=>Rd w S (t.aE t.zero) [x]) ts vs->cJ w S (ts.map λ t=>t.aE t.zero) vs:=by
   intro ts;induction ts with
   | nil=>intro vs h;cases vs<;>first|rfl|cases h
   | cons t ts ih =>
    intro vs h;cases vs with
    | nil=>cases h
    | cons v vs=>exact⟨v,vs,rfl,h.1,ih vs h.2⟩
  exact this _ _ (h2.imp λ t x _ hx=>cell t x hx)
 | _ =>
  simp only[zeroCells] at h1;match hc:z.cells.toList,h1 with
  | [x],h1=>exact cell _ _ h1.1
theorem OS(off:Nat):∀ (xs:List Value) (k:Nat) (l:List Value),off+k+xs.length<=l.length ->
  (xs.zipIdx k).foldl (λ cs p=>cs.setIfInBounds (off+p.2) p.1) l.toArray=(l.take (off+k)++xs++l.drop (off+k+xs.length)).toArray
 | [],k,l,_=>by simp
 | x::xs,k,l,h=>by
  simp only[List.length_cons] at h;simp only[List.zipIdx_cons,List.foldl_cons];have:=OS off xs (k+1) (l.set (off+k) x) (by simp;omega);rw[List.setIfInBounds_toArray,this];congr 1;have e:=list_seg_step l (off+k) x xs (by omega);simpa [Nat.add_assoc] using e
theorem Km(place:Nat->Option (Nat×Nat))(i off size:Nat)(v:Value)(rest:List (Nat×Value))(l:List Value)(hp:place i=some (off,size))(hs:v.cells.size=size)(hl:off+size<=l.length) :
  Instr.fill place l.toArray ((i,v)::rest)=Instr.fill place (l.take off++v.cells.toList++l.drop (off+size)).toArray rest:=by
 have hn:(decide (v.cells.size≠size)||decide (off+v.cells.size>l.toArray.size))=false:=by
  simp[hs];omega
 simp only[Instr.fill,hp,hn,a9R,b1M];congr 1;rw[<-Array.foldl_toList,Array.toList_zipIdx];have:=OS off v.cells.toList 0 l (by simp[hs];omega);simp only[b0P,a9P,hs] at this;exact this
theorem x7{E:Env}{s:aG}{place:Nat->Option (Nat×Nat)}(hp:∀ i t,s.dc[i]?=some t->place i=some (s.dx i,t.size)) :
  ∀ {ps:List (Nat×AV)} {vs:List (Nat×Value)} {cs du:List AV} {l:List Value},partsOf E s cs ps=some du->aM (λ p q=>p.1=q.1/\VR c G lk w p.2 q.2) ps vs->aM (C1 c G lk w) cs l ->
   ∃ l',Instr.fill place l.toArray vs=some l'.toArray/\aM (C1 c G lk w) du l'
 | [],[],cs,du,l,h,_,hl=>by
  simp only[partsOf,a8V] at h;subst h;exact⟨l,rfl,hl⟩
 | (i,v)::ps,(j,x)::vs,cs,du,l,h,hv,hl=>by
  obtain⟨⟨uK,hx⟩,Pc⟩:=hv;have uK:i=j:=uK;subst uK;simp only[partsOf] at h;split at h
  .rename_i τ ep;split at h
   .rename_i new oU;split at h
    .rename_i cs1 yM;obtain⟨h1,_,h3⟩:=xE oU hx;have hlen:=h1.length;have Y9:=hl.length;unfold putCells at yM;split at yM
     .rename_i hb;have hb:=a9V hb;simp only[a8V] at yM;subst yM;have bZ:x.cells.size=τ.size:=by rw[<-h3,hlen];simp
      have C5:s.dx i+τ.size<=l.length:=by omega
      rw[Km place i _ _ x vs l (hp i τ ep) bZ C5];refine x7 hp h Pc ?_;rw[a9B,<-h3];exact (hl.take _).append (h1.append (hl.drop _))
     .cases yM
    .cases h
   .cases h
  .cases h
 | [],_::_,_,_,_,_,hv,_=>hv.elim
 | _::_,[],_,_,_,_,hv,_=>hv.elim
theorem Fk{τ:Ty}{place:Nat->Option (Nat×Nat)}(hp:∀ i,place i=some (i * τ.size,τ.size)) :
  ∀ {ps:List (Nat×AV)} {vs:List (Nat×Value)} {n:Nat} {xs:List τ.den} {l:List Value},qC τ n ps=some xs->aM (λ p q=>p.1=q.1/\VR c G lk w p.2 q.2) ps vs ->
   (n+ps.length) * τ.size=l.length->∃ r,Instr.fill place l.toArray vs=some (l.take (n * τ.size)++r).toArray/\cZ w G.S (xs.map τ.aE) r
 | [],[],n,xs,l,h,_,hl=>by
  simp only[qC,a8V] at h;subst h;refine⟨[],?_,rfl⟩;simp only[a9v,b0P] at hl;rw[hl,b1T,a9U];rfl
 | (i,v)::ps,(j,x)::vs,n,xs,l,h,hv,hl=>by
  obtain⟨⟨uK,hx⟩,Pc⟩:=hv;have uK:i=j:=uK;subst uK;simp only[qC] at h;split at h
  .rename_i fe;have fe:=a8W fe;subst fe;split at h
   .rename_i y hy;split at h
    .rename_i ys B7;simp only[a8V] at h;subst h;have hr:=(yh hy hx).cells;have bZ:x.cells.size=τ.size:=by
      have:=Rd.length _ hr;rw[show TV.aE ⟨τ,y⟩=τ.aE y from rfl,Ty.cq] at this;simpa using this
     simp only[a9f] at hl;have C7:=τ.size_pos;have e1:(i+(ps.length+1)) * τ.size=i * τ.size+τ.size+ps.length * τ.size:=by
      rw[a9Y,a9Y];omega
     rw[Km place i _ _ x vs l (hp i) bZ (by omega)];obtain⟨r,h1,h2⟩:=Fk hp (l:=l.take (i * τ.size)++x.cells.toList++l.drop (i * τ.size+τ.size)) B7 Pc (by
      simp[bZ];rw[show (i+1+ps.length) * τ.size=i * τ.size+τ.size+ps.length * τ.size by rw[a9Y,a9Y];omega];omega)
     refine⟨x.cells.toList++r,?_,_,_,rfl,hr,h2⟩;rw[h1];congr 2;rw[show (i+1) * τ.size=i * τ.size+τ.size by rw[a9Y];omega];have ht:(l.take (i * τ.size)++x.cells.toList).length=i * τ.size+τ.size:=by simp[bZ];omega
     rw[<-ht,b0Z,a9B]
    .cases h
   .cases h
  .cases h
 | [],_::_,_,_,_,_,hv,_=>hv.elim
 | _::_,[],_,_,_,_,hv,_=>hv.elim
theorem Be{τ:Ty}:∀ {ps:List (Nat×AV)} {n:Nat} {xs:List τ.den},qC τ n ps=some xs->xs.length=ps.length
 | [],n,xs,h=>by
  simp only[qC,a8V] at h;subst h;rfl
 | (i,v)::ps,n,xs,h=>by
  simp only[qC] at h;split at h
  .split at h
   .split at h
    .rename_i ys B7;simp only[a8V] at h;subst h;simp[Be B7]
    .cases h
   .cases h
  .cases h
theorem Bu(z:Array Value)(k:Nat):(madeCells z ((k+1) * z.size)).toList=(madeCells z (k * z.size)).toList++z.toList:=by
 apply b2r;intro j;have e:(k+1) * z.size=k * z.size+z.size:=by rw[a9Y];omega
 by_cases h1:j<k * z.size
 .rw[b0n (by simp[madeCells];exact h1)];have h2:j<(k+1) * z.size:=by omega
  simp[madeCells,h1,h2]
 .by_cases h2:j<(k+1) * z.size
  .rw[b0Q (by simp[madeCells];omega)];have h3:j - k * z.size<z.size:=by omega
   have hm:j % z.size=j - k * z.size:=by
    have h4:(j - k * z.size+z.size * k) % z.size=j - k * z.size:=by rw[Nat.add_mul_mod_self_left,Nat.mod_eq_of_lt h3]
    rwa [Nat.mul_comm z.size k,Nat.sub_add_cancel (Nat.le_of_not_lt h1)] at h4
   simp[madeCells,h2,hm,h3]
  .rw[b0Q (by simp[madeCells];omega)];have h3:¬ j - k * z.size<z.size:=by omega
   simp[madeCells,h2];omega
theorem FA{S:Nat->Prop}{d:D}{z:Array Value}(h:Rd w S d z.toList):∀ k:Nat,cZ w S (List.replicate k d) (madeCells z (k * z.size)).toList
 | 0=>by simp[madeCells,cZ,Array.range_zero']
 | k+1=>by
  rw[Bu,b2S];exact cZ.append _ _ (FA h k) ⟨z.toList,[],by simp,h,rfl⟩
theorem Bv(z:Array Value)(n m:Nat)(h:n<=m):(madeCells z m).toList.take n=(madeCells z n).toList:=by
 apply b2r;intro j;rw[b0i];by_cases hj:j<n
 .have:j<m:=by omega
  simp[madeCells,hj,this]
 .simp[madeCells,hj]
end
def LV(d:Option Nat)(v:AV):av->Prop
 | .box _=>∃ i,d=some i/\v = .ptr i 0
 | .row .. => ∃ i,d=some i/\v = .row i
 | .aC .. => False
 | .map .. => ∃ i,d=some i/\v = .mp i
def XQ(c:Ctx)(G:Gh)(lk:Nat->Option av)(w:World)(x:Value):av->Prop
 | .box cs=>∃ b l t,x = .pointer (some ⟨b,0,none⟩)/\w.heap[b]?=some (.cells l.toArray t (0,0))/\aM (C1 c G lk w) cs l
 | .row e τ xs=>∃ l,w.ownsRow 0 e τ.size x xs.length l/\cZ w G.S (xs.map τ.aE) l/\xs.length<=140737488355328
 | .aC .. => False
 | .map m=>∃ b es clock,x = .map (some b)/\w.heap[b]?=some (.map es clock)/\vZ m es
def vY(c:Ctx)(G:Gh)(sl:Nat->AV)(n:Nat)(lk:Nat->Option av)(d:Option Nat)(a:Act)(w:World)(v:AV)(ob:Option av)(a':Act)(w':World):Prop :=
 ∃ x S',a'=a.put d x/\bd c ⟨S',G.η,G.φ⟩ sl n lk a w' /\
  match ob with
  | none=>VR c ⟨S',G.η,G.φ⟩ lk w' v x
  | some o=>LV d v o/\XQ c ⟨S',G.η,G.φ⟩ lk w' x o/\∀ b,dk x=some b->w.heap.size<=b/\b<w'.heap.size/\¬ S' b
section
variable {c:Ctx} {G:Gh} {sl:Nat->AV} {n:Nat} {lk:Nat->Option av} {a:Act} {w w':World}
theorem bd.grow(h:bd c G sl n lk a w)(hk:bI (λ _=>False) w w'){S':Nat->Prop}(hS:∀ b,b<w.heap.size->(S' b↔G.S b))(hLt:∀ b,S' b->b<w'.heap.size):bd c ⟨S',G.η,G.φ⟩ sl n lk a w':=by
 refine h.world ⟨hk.os,hk.tape,hk.output,hk.size,λ b hb _=>hk.block b hb (λ h=>h)⟩ (λ b hb=>(hS b (h.dI b hb)).2 hb) hS (λ b hb=>?_) hLt (λ b hb=>?_) (λ id o b ho hb=>?_) (λ id τ xs b ht hb=>hk.block b (h.aO.pl id τ xs b ht hb).2.2.1 (λ h=>h))
 .have h1:=h.sX b hb;exact (hS b (h.dI b h1)).2 h1
 .refine hk.block b ?_ (λ h=>h);rcases hb with hb|hb
  .exact h.dI b hb
  .exact a9g hb.1 h.aL.size
 .exact hk.block b (h.place id o b ho hb).2.2 (λ h=>h)
theorem eS(w:World)(o:Obj):bI (λ _=>False) w (w.alloc o):=⟨rfl,rfl,rfl,by simp,λ b hb _=>RowKit.Below.heap_alloc w o b hb⟩
theorem bd.alloc(h:bd c G sl n lk a w)(o:Obj):bd c G sl n lk a (w.alloc o) :=
 h.grow (S':=G.S) (eS w o) (λ _ _=>b0X) (λ b hb=>by have:=h.dI b hb;simp;omega)
theorem bd.Ua(h:bd c G sl n lk a w)(hk:bI (λ _=>False) w w')(b:Nat)(hb:St c G.S b):w'.heap[b]?=w.heap[b]?:=by
 refine hk.block b ?_ (λ h=>h);rcases hb with hb|hb
 .exact h.dI b hb
 .exact a9g hb.1 h.aL.size
theorem bd.a4X(h:bd c G sl n lk a w)(hk:bI (λ _=>False) w w'){v:AV}{x:Value}(hv:C1 c G lk w v x):C1 c G lk w' v x :=
 hv.mono (λ _ _=>⟨eb.refl _,rfl⟩) (λ _ h=>h) (h.Ua hk)
theorem bW{o:Oper}{v:AV}{x:Value}{Q:Exit->Act->World->Prop}(hI:bd c G sl n lk a w)(hr:(execOp a.eval o).run c.P w = .ok (.value x) w)(hv:VR c G lk w v x) :
  o.wp c.P a w (vY c G sl n lk o.dst a w v none) Q:=by
 unfold Oper.wp;rw[hr];exact⟨x,G.S,rfl,hI,hv⟩
theorem tq{o:Oper}{v:AV}{ob:av}{x:Value}{Q:Exit->Act->World->Prop}(QQ:bd c G sl n lk a w)(hr:(execOp a.eval o).run c.P w = .ok (.value x) w')(hI:bd c G sl n lk a w')
  (hL:LV o.dst v ob) (hN:XQ c G lk w' x ob) (hb:∀ b,dk x=some b->w.heap.size<=b/\b<w'.heap.size) :
  o.wp c.P a w (vY c G sl n lk o.dst a w v (some ob)) Q:=by
 unfold Oper.wp;rw[hr];exact⟨x,G.S,rfl,hI,hL,hN,λ b h=>⟨(hb b h).1,(hb b h).2,λ hs=>by have:=QQ.dI b hs;have:=(hb b h).1;omega⟩⟩
theorem R8{e:TypeId}{τ:Ty}{xs:List τ.den}{x:Value}{l:List Value}{S S':Nat->Prop}(h1:w.ownsRow 0 e τ.size x xs.length l)(h2:cZ w S (xs.map τ.aE) l)(h3:xs.length<=140737488355328)(hS:∀ b,S b->S' b)(hb:∀ b,dk x=some b->S' b) :
  Rd w S' (Ty.aE (.slice τ) xs) [x]:=by
 rcases h1.2 with ⟨hv,hn⟩|⟨g,cap,cur,hv,_,hh,QY,WU,iG,htk⟩
 .have hx:xs=[]:=b0d hn;subst hx;exact⟨none,0,by simp[hv],by simp,by simp[maxLen],by simp, .inl rfl⟩
 .refine⟨some ⟨g,0,none⟩,cap,by simp[hv],by simpa using QY,WU,by simpa using h3,?_⟩;refine .inr ⟨g,0,rfl,hb g (by rw[hv];rfl),?_⟩;refine cZ.row _ g 0 (h2.aL hS (λ _ _=>rfl)) λ j v hj=>?_;have:=h1.cells (g:=g) (by rw[hv];rfl) j v hj;rw[Addr.add_lit] at this;exact this
theorem YT{o:Oper}{τ:Ty}{xs:List τ.den}{e:TypeId}{x:Value}{l:List Value}{Q:Exit->Act->World->Prop}(hI:bd c G sl n lk a w)(hr:(execOp a.eval o).run c.P w = .ok (.value x) w')(hk:bI (λ _=>False) w w')
  (h1:w'.ownsRow 0 e τ.size x xs.length l) (h2:cZ w' G.S (xs.map τ.aE) l) (h3:xs.length<=140737488355328) (hb:∀ b,dk x=some b->w.heap.size<=b/\b<w'.heap.size) :
  o.wp c.P a w (vY c G sl n lk o.dst a w (.aN ⟨.slice τ,xs⟩) none) Q:=by
 unfold Oper.wp;rw[hr];refine⟨x,λ b=>G.S b\/dk x=some b,rfl,hI.grow hk (λ b cm=>⟨λ q=>q.elim id λ q=>absurd (hb b q).1 (by omega), .inl⟩) λ b q=>q.elim (λ q=>Nat.lt_of_lt_of_le (hI.dI b q) hk.size) λ q=>(hb b q).2,?_⟩;exact R8 h1 h2 h3 (λ _ q => .inl q) (λ _ q => .inr q)
theorem L0{v:TV}(h:v.flat=true){S S':Nat->Prop}{w w':World}{cs:List Value}(hr:Rd w S v.aE cs):Rd w' S' v.aE cs:=by
 have one:∀ u:TV,u.τ.agg=false->(match u.τ with | .slice _=>false | .mv _=>false|_=>true)=true->∀ cs,Rd w S u.aE cs->Rd w' S' u.aE cs:=by
  intro u h1 h2 cs h3;obtain⟨τ,y⟩:=u;cases τ<;>first|exact h3|(cases h1;done)|(simp at h2;done)
 obtain⟨τ,y⟩:=v;cases τ with
 | st s =>
  rw[show TV.aE ⟨.st s,y⟩=s.aE y from rfl,aG.bQ] at hr ⊢;refine cJ.sC.2 ((cJ.sC.1 hr).imp λ u x hu hx=>?_);refine one u ?_ (a9H.1 h u hu) _ hx;have:=aG.nz s y u hu;obtain⟨aT,z⟩:=u;cases aT with
  | st s'=>simp[TV.aE,Ty.aE,aG.bQ,D.leaf] at this
  | _=>rfl
 | slice t=>simp[TV.flat,TV.cells] at h
 | mv t=>simp[TV.flat,TV.cells] at h
 | ptr=>exact hr
 | int k=>exact hr
 | bool=>exact hr
 | str=>exact hr
theorem OQ{v:TV}(h:v.flat=true){S S':Nat->Prop}{w w':World}{x:Value}(hr:dC w S v x):dC w' S' v x:=by
 obtain⟨τ,y⟩:=v;cases τ with
 | st s =>
  obtain⟨cs,h1,h2⟩:=hr;exact⟨cs,h1,L0 (v:=⟨.st s,y⟩) h h2⟩
 | _=>exact L0 (v:=⟨_,y⟩) (w:=w) (w':=w') (S:=S) (S':=S') h hr
theorem AL{lk':Nat->Option av}(bS:∀ id o,lk' id=some o->lk id=some o):∀ id o,qm lk' id=some o->lk id=some o:=by
 intro id o h;unfold qm at h;split at h
 .rename_i cs hc;simp only[a8V] at h;subst h;exact bS _ _ hc
 .cases h
theorem AM{lk':Nat->Option av}:∀ id e τ xs,qm lk' id≠some (.row e τ xs):=by
 intro id e τ xs h;unfold qm at h;split at h<;>simp at h
theorem xi{lk':Nat->Option av}:∀ id τ xs,qm lk' id≠some (.aC τ xs):=by
 intro id τ xs h;unfold qm at h;split at h<;>simp at h
theorem Xi{τ:Ty}{cs:List Value}{x:τ.den}{S:Nat->Prop}(h:dC w S ⟨τ,x⟩ (yZ τ cs))(hl:cs.length=τ.size):Rd w S (τ.aE x) cs:=by
 cases τ with
 | st s =>
  obtain⟨du,h1,h2⟩:=h;simp only[yZ,Value.agg.injEq] at h1;have:cs=du:=by have:=congrArg Array.toList h1;simpa using this
  subst this;exact h2
 | _ =>
  match cs,hl with
  | [v],_=>exact h
theorem CR.ft{v:AV}{x:Value}(h:CR c G lk w v x):VR c G lk w v x:=by
 cases v with
 | aN v=>exact h
 | agg cs=>exact h
 | any=>trivial
 | dR=>exact h
 | gb _=>exact h.elim
 | cN _ _=>exact h.elim
 | nil=>exact h
 | cS v=>exact h
 | ptr i o=>exact h
 | row i=>exact h
 | dX i k o=>exact h
 | fn f=>exact h
 | aC i=>exact h
 | sub i k o z=>exact h
 | eo i k o z=>exact h
 | gv v=>exact h
 | mp i=>exact h
theorem C1.V5{v:AV}{x:Value}(h:C1 c G lk w v x):CR c G lk w v x:=by
 cases v with
 | aN v=>exact C1.ft (v := .aN v) h
 | agg cs=>exact h.elim
 | gb cs=>exact h.elim
 | cN f cs=>exact h.elim
 | _=>exact h
theorem CR.inv{v:AV}{x:Value}(h:CR c G lk w v x):(∃ u,v = .aN u/\dC w G.S u x)\/(∃ cs l,v = .agg cs/\x = .agg l.toArray/\aM (C1 c G lk w) cs l)\/C1 c G lk w v x:=by
 cases v with
 | aN v=>exact .inl ⟨v,rfl,h⟩
 | agg cs =>
  obtain⟨l,h1,h2⟩:=h;exact .inr (.inl ⟨cs,l,rfl,h1,h2⟩)
 | _=>exact .inr (.inr h)
theorem VR.V5{v:AV}{x:Value}(h:VR c G lk w v x)(hc:v.a0r=true):CR c G lk w v x:=by
 cases v with
 | gb _=>cases hc
 | cN _ _=>cases hc
 | dR=>cases hc
 | gv _=>cases hc
 | _=>exact h
theorem CD{S:Nat->Prop}{lk':Nat->Option av}(hI:bd c G sl n lk a w)(bS:∀ id o,lk' id=some o->lk id=some o)
  (ff:∀ (τ:Ty) v x (y:τ.den),qt lk' τ v=some y->VR c G lk w v x->dC w S ⟨τ,y⟩ x) {τ:Ty} {v:AV} {x:Value} {y:τ.den} (hy:deref lk' τ v=some y) (hx:VR c G lk w v x):FT w S (.ref ⟨τ,y⟩) x:=by
 unfold deref at hy;split at hy
 .rename_i u hu;obtain⟨b,o,cs,h1,h2,h3,h4⟩:=ow hI.aH bS hu hx;have h5:=Xi (ff _ _ _ _ hy h4) h3;have C7:=τ.size_pos;have hc0:=h2 0 (cs[0]'(by omega)) (a9j (by omega));exact⟨b,o,cs,h1,World.block_lt_of_cell? w _ hc0,h2,h5⟩
 .cases hy
theorem zV{S:Nat->Prop}{lk':Nat->Option av}(hI:bd c G sl n lk a w)(bS:∀ id o,lk' id=some o->lk id=some o)
  (ff:∀ (τ:Ty) v x (y:τ.den),qt lk' τ v=some y->VR c G lk w v x->dC w S ⟨τ,y⟩ x) :
  ∀ {ks:List (Bool×Ty)} {vs:List AV} {Z9:List Arg} {xs:List Value},nR lk' ks vs=some Z9->aM (CR c G lk w) vs xs->aM (FT w S) Z9 xs
 | [],[],Z9,xs,h,hv=>by
  simp only[nR,a8V] at h;subst h;match xs,hv with
  | [],_=>trivial
 | (true,τ)::ks,v::vs,Z9,xs,h,hv=>by
  simp only[nR] at h;split at h
  .rename_i y hy;split at h
   .rename_i r hr;simp only[a8V] at h;subst h;match xs,hv with
    | x::xs,hv=>exact⟨CD hI bS ff hy hv.1.ft,zV hI bS ff hr hv.2⟩
   .cases h
  .cases h
 | (false,τ)::ks,v::vs,Z9,xs,h,hv=>by
  simp only[nR] at h;split at h
  .rename_i y hy;split at h
   .rename_i r hr;simp only[a8V] at h;subst h;match xs,hv with
    | x::xs,hv=>exact⟨ff _ _ _ _ hy hv.1.ft,zV hI bS ff hr hv.2⟩
   .cases h
  .cases h
 | [],_::_,_,_,h,_=>by cases h
 | (true,_)::_,[],_,_,h,_=>by cases h
 | (false,_)::_,[],_,_,h,_=>by cases h
theorem tZ(hE:bn c.P c.E){f:FuncId}{ei:List Arg}:∀ (ps:List Ty) (r:Ty) (acc:List Arg),zC c.P f ei ps r (Ou c.E f ei ps r acc) acc
 | [],r,acc=>by
  show (Ou c.E f ei [] r acc).1->_;intro hp;generalize hF:Ou c.E f ei [] r acc=F at hp ⊢;rw[Ou] at hF;split at hF
  .rename_i pre v hc;split at hF
   .rename_i y hy;subst hF;have:=TV.aQ hy;subst this;obtain⟨h1,h2⟩:=hE.Kc f _ _ _ hc hp;exact⟨h1,h2.ok0⟩
   .subst hF;exact hp.elim
  .subst hF;exact hp.elim
 | t::ts,r,acc=>λ x=>tZ hE ts r (acc++[.val ⟨t,x⟩])
theorem LF{P:Program}{f:FuncId}{ei:List Arg}:∀ {ps:List Ty} {r:Ty} {F:FN ps r} {acc Z9:List Arg} {p:Prop} {y:r.den},zC P f ei ps r F acc->qX ps r F Z9=some (p,y)->p ->
  (lG P f/\HA P f (acc++Z9++ei) (·=[⟨r,y⟩]))/\∀ z∈Z9,∃ v,z = .val v
 | [],r,F,acc,[],p,y,h,e,hp=>by
  simp only[qX,Option.some.injEq] at e;have h':F.1->lG P f/\HA P f (acc++ei) (·=[⟨r,F.2⟩]):=h;rw[e] at h';refine⟨by simpa using h' hp,by simp⟩
 | t::ts,r,F,acc, .val z::zs,p,y,h,e,hp=>by
  simp only[qX] at e;split at e
  .rename_i x hx;have h':∀ x,zC P f ei ts r (F x) (acc++[.val ⟨t,x⟩]):=h;obtain⟨h1,h2⟩:=LF (h' x) e hp;have:=TV.aQ hx;subst this;refine⟨by simpa using h1,λ z hz=>?_⟩;rcases List.mem_cons.1 hz with rfl|hz
   .exact⟨_,rfl⟩
   .exact h2 z hz
  .cases e
 | [],_,_,_,_::_,_,_,_,e,_=>by simp[qX] at e
 | _::_,_,_,_,[],_,_,_,e,_=>by simp[qX] at e
 | _::_,_,_,_, .ref _::_,_,_,_,e,_=>by simp[qX] at e
 | _::_,_,_,_, .fn _::_,_,_,_,e,_=>by simp[qX] at e
 | _::_,_,_,_, .cN _::_,_,_,_,e,_=>by simp[qX] at e
theorem zX(hE:bn c.P c.E){S:Nat->Prop}{lk':Nat->Option av}(hI:bd c G sl n lk a w)(bS:∀ id o,lk' id=some o->lk id=some o)(MM:∀ b,G.S b->S b)
  (ff:∀ (τ:Ty) v x (y:τ.den),qt lk' τ v=some y->VR c G lk w v x->dC w S ⟨τ,y⟩ x) {g:AV} {x:Value} {q:FV} (h:zW c.E lk' g=some q) (hx:VR c G lk w g x):tD c.P w S (.cN q) x:=by
 unfold zW at h;split at h
 .rename_i f cs;split at h
  .rename_i k _;split at h
   .rename_i Z9 has;simp only[a8V] at h;subst h;obtain⟨l,h1,h2⟩:=hx;exact⟨f,Z9,l,h1,tZ hE _ _ _,zV hI bS ff has h2⟩
   .cases h
  .cases h
 .simp only[a8V] at h;subst h;obtain⟨f,ei,l,h1,h2,h3⟩:=hx;refine⟨f,ei,l,h1,h2,h3.imp λ u y _ hy=>?_⟩;cases u with
  | val v=>exact dC.mono (G:=G) (G':=⟨S,G.η,G.φ⟩) hy MM (λ _ _=>rfl)
  | ref v =>
   obtain⟨b,o,cs,k1,k2,k3,k4⟩:=hy;refine⟨b,o,cs,k1,?_,k3,Rd.aL MM (λ _ _=>rfl) _ k4⟩;exact k2.elim (hI.dI b) λ k=>a9g k.1 hI.aL.size
  | fn f=>exact hy
  | cN v=>exact hy.elim
  | own v=>exact hy.elim
  | box k=>exact hy.elim
 .rename_i f;split at h
  .rename_i k _;split at h
   .simp only[a8V] at h;subst h;exact⟨f,[],[],hx,tZ hE _ _ _,U⟩
   .cases h
  .cases h
 .cases h
theorem gh(hE:bn c.P c.E){S:Nat->Prop}{lk':Nat->Option av}(hI:bd c G sl n lk a w)(bS:∀ id o,lk' id=some o->lk id=some o)(MM:∀ b,G.S b->S b)
  (ff:∀ (τ:Ty) v x (y:τ.den),qt lk' τ v=some y->VR c G lk w v x->dC w S ⟨τ,y⟩ x) :
  ∀ {Ts:List TypeId} {vs:List AV} {Z9:List Arg} {xs:List Value},kx c.E lk' Ts vs=some Z9->aM (VR c G lk w) vs xs->aM (tD c.P w S) Z9 xs
 | [],[],Z9,xs,h,hv=>by
  simp only[kx,a8V] at h;subst h;match xs,hv with
  | [],_=>trivial
 | T::Ts,v::vs,Z9,xs,h,hv=>by
  simp only[kx] at h;split at h
  .rename_i p hp;split at h
   .rename_i r hr;simp only[a8V] at h;subst h;match xs,hv with
    | x::xs,hv =>
     refine⟨?_,gh hE hI bS MM ff hr hv.2⟩;have hx:=hv.1;unfold Oa at hp;split at hp
     .split at hp
      .rename_i y hy;simp only[a8V] at hp;subst hp;exact ff _ _ _ _ hy hx
      .cases hp
     .split at hp
      .rename_i τ _;split at hp
       .rename_i y hy;simp only[a8V] at hp;subst hp;exact CD hI bS ff hy hx
       .cases hp
      .split at hp
       .rename_i q hq;simp only[a8V] at hp;subst hp;exact zX hE hI bS MM ff hq hx
       .split at hp
        .simp only[a8V] at hp;subst hp;exact hx
        .cases hp
   .cases h
  .cases h
 | [],_::_,_,_,h,_=>by cases h
 | _::_,[],_,_,h,_=>by cases h
theorem xm{S:Nat->Prop}{res:List TV}{x:Value}(h:E9 w S res x){η:Nat->Value}{φ:Nat->List Nat}:VR c ⟨S,η,φ⟩ lk w (AQ res) x:=by
 match res,h with
 | [v],h=>exact h
 | [],h =>
  obtain⟨l,h1,h2⟩:=h;exact⟨l,h1,aM.dH _ h2⟩
 | v::u::r,h =>
  obtain⟨l,h1,h2⟩:=h;exact⟨l,h1,aM.dH _ h2⟩
theorem RN{S S':Nat->Prop}{res:List TV}{x:Value}(hf:res.all TV.flat=true)(h:E9 w S res x):E9 w S' res x:=by
 have iu:∀ v∈res,v.flat=true:=a9H.1 hf;match res,h,iu with
 | [v],h,iu=>exact OQ (iu v (by simp)) h
 | [],h,iu =>
  obtain⟨l,h1,h2⟩:=h;exact⟨l,h1,h2.imp λ v y hv hy=>OQ (iu v hv) hy⟩
 | v::u::r,h,iu =>
  obtain⟨l,h1,h2⟩:=h;exact⟨l,h1,h2.imp λ v y hv hy=>OQ (iu v hv) hy⟩
theorem LS(hE:bn c.P c.E)(hI:bd c G sl n lk a w){lk':Nat->Option av}(bS:∀ id o,lk' id=some o->lk id=some o){o:Oper}{f:FuncId}{Ts:List TypeId}{vs:List AV}{xs:List Value}
  {vc:Vc} {v:AV} {ob:Option av} (hq:D3 c.E lk' f Ts vs=some (vc,v,ob)) (dY:vc.ok) (iU:aM (VR c G lk w) vs xs)
  (cz:lG c.P f->(execOp a.eval o).run c.P w = .ok (.enter f xs.toArray) w) {Q:Exit->Act->World->Prop}:o.wp c.P a w (vY c G sl n lk o.dst a w v ob) Q:=by
 have fin:∀ (S:Nat->Prop) (Z9:List Arg) (pre:Vc) (res:List TV),c.E.Kc f Z9=some (pre,res)->pre.ok->aM (tD c.P w S) Z9 xs->jf w S ->
   (∀ S' w' x,bI (λ _=>False) w w'->(∀ b,b<w.heap.size->(S' b↔S b))->(∀ b,S' b->b<w'.heap.size)->E9 w' S' res x->vY c G sl n lk o.dst a w (AQ res) none (a.put o.dst x) w') ->
   o.wp c.P a w (vY c G sl n lk o.dst a w (AQ res) none) Q:=by
  intro S Z9 pre res hc Pb has bj GP;obtain⟨rK,lU⟩:=hE.Kc f Z9 pre res hc Pb;unfold Oper.wp;rw[cz rK];simp only[Oper.upon];refine (lU w S xs bj has).mono ?_;rintro e w' ⟨x,S',a7t,rfl,rfl,h1,h2,h3,h4⟩;exact GP S' w' x h1 h2 h3 h4
 unfold D3 at hq;split at hq
 .rename_i Z9 has;split at hq
  .rename_i pre res hc;simp only[a8V,a8Y] at hq;obtain⟨rfl,rfl,rfl⟩:=hq;refine fin G.S Z9 _ _ hc dY (gh hE hI (AL bS) (λ _ h=>h) (λ τ v x y h1 h2=>Co AM xi h1 h2) has iU) hI.ZC ?_;intro S' w' x h1 h2 h3 h4;exact⟨x,S',rfl,hI.grow h1 h2 h3,xm h4⟩
  .cases hq
 .split at hq
  .rename_i Z9 has;split at hq
   .rename_i pre res hc;split at hq
    .rename_i QU;simp only[a8V,a8Y] at hq;obtain⟨rfl,rfl,rfl⟩:=hq;refine fin (SX G lk) Z9 _ _ hc dY (gh hE hI bS (λ _ h => .inl h) (λ τ v x y h1 h2=>wg hI.aO hI.aH bS h1 h2) has iU) ?_ ?_
     .exact hI.V0
     .intro S' w' x h1 h2 h3 h4;exact⟨x,G.S,rfl,hI.grow (S':=G.S) h1 (λ _ _=>b0X) (λ b hb=>a9g (hI.dI b hb) h1.size),xm (RN QU h4)⟩
    .cases hq
   .cases hq
  .cases hq
theorem Rf{o:Oper}{cl:Call}{fo:Operand}{f:FuncId}{l:List Value}(ho:o.op = .call cl)(hc:cl.callee = .value fo)(hf:a.eval fo = .func (.func f) #[] l.toArray)(rK:lG c.P f) :
  (execOp a.eval o).run c.P w = .ok (.enter f (cl.args.toList.map a.eval++l).toArray) w:=by
 obtain⟨fn,h1,h2,h3⟩:=rK;have h3':(fn.name = "runtime.NumGoroutine")=False:=by simpa using h3
 have CX:fn.body≠none:=by intro e;simp[e] at h2
 simp[execOp,ho,resolve,hc,Deferred.ofValue,hf,invoke,callFunc,h1,CX,h3']
theorem Cx(hE:bn c.P c.E)(hI:bd c G sl n lk a w){lk':Nat->Option av}(bS:∀ id o,lk' id=some o->lk id=some o){o:Oper}{cl:Call}{fo:Operand}{g:AV}{Ts:List TypeId}{vs:List AV}
  {vc:Vc} {v:AV} {ob:Option av} (hq:yx c.E lk' g Ts vs=some (vc,v,ob)) (dY:vc.ok) (iU:aM (VR c G lk w) vs (cl.args.toList.map a.eval)) (bf:o.op = .call cl) (fY:cl.callee = .value fo) (hg:VR c G lk w g (a.eval fo))
  {Q:Exit->Act->World->Prop}:o.wp c.P a w (vY c G sl n lk o.dst a w v ob) Q:=by
 have fin:∀ (S:Nat->Prop) (Z9:List Arg) (q:FV) (pre:Prop) (y:q.r.den),qX q.ps q.r q.F Z9=some (pre,y)->pre->aM (tD c.P w S) Z9 (cl.args.toList.map a.eval)->tD c.P w S (.cN q) (a.eval fo)->jf w S ->
   (∀ S' w' x,bI (λ _=>False) w w'->(∀ b,b<w.heap.size->(S' b↔S b))->(∀ b,S' b->b<w'.heap.size)->E9 w' S' [⟨q.r,y⟩] x->vY c G sl n lk o.dst a w (AQ [⟨q.r,y⟩]) none (a.put o.dst x) w') ->
   o.wp c.P a w (vY c G sl n lk o.dst a w (AQ [⟨q.r,y⟩]) none) Q:=by
  intro S Z9 q pre y S7 Pb has a6S bj GP;obtain⟨f,ei,l,h1,h2,h3⟩:=a6S;obtain⟨⟨rK,lU⟩,U6⟩:=LF h2 S7 Pb;unfold Oper.wp;rw[Rf bf fY h1 rK];simp only[Oper.upon];simp only[List.nil_append] at lU;have a6H:aM (FT w S) Z9 (cl.args.toList.map a.eval):=has.imp λ u z hu hz=>by
   obtain⟨v,rfl⟩:=U6 u hu;exact hz
  refine (lU w S _ bj (a6H.append h3)).mono ?_;rintro e w' ⟨x,S',a7t,rfl,rfl,h1,h2,h3,h4⟩;exact GP S' w' x h1 h2 h3 h4
 unfold yx at hq;split at hq
 .rename_i r0 U5;split at U5
  .rename_i Z9 has;split at U5
   .rename_i q hqq;split at U5
    .rename_i pre y S7;simp only[a8V] at U5 hq;subst U5;simp only[a8Y] at hq;obtain⟨rfl,rfl,rfl⟩:=hq;refine fin G.S Z9 q pre y S7 dY (gh hE hI (AL bS) (λ _ h=>h) (λ τ v x y h1 h2=>Co AM xi h1 h2) has iU) (zX hE hI (AL bS) (λ _ h=>h) (λ τ v x y h1 h2=>Co AM xi h1 h2) hqq hg) hI.ZC ?_;intro S' w' x h1 h2 h3 h4;exact⟨x,S',rfl,hI.grow h1 h2 h3,xm h4⟩
    .cases U5
   .cases U5
  .cases U5
 .split at hq
  .rename_i Z9 has;split at hq
   .rename_i q hqq;split at hq
    .rename_i pre y S7;split at hq
     .rename_i QU;simp only[a8V,a8Y] at hq;obtain⟨rfl,rfl,rfl⟩:=hq;refine fin (SX G lk) Z9 q pre y S7 dY (gh hE hI bS (λ _ h => .inl h) (λ τ v x y h1 h2=>wg hI.aO hI.aH bS h1 h2) has iU) (zX hE hI bS (λ _ h => .inl h) (λ τ v x y h1 h2=>wg hI.aO hI.aH bS h1 h2) hqq hg) ?_ ?_
      .exact hI.V0
      .intro S' w' x h1 h2 h3 h4;exact⟨x,G.S,rfl,hI.grow (S':=G.S) h1 (λ _ _=>Iff.rfl) (λ b hb=>Nat.lt_of_lt_of_le (hI.dI b hb) h1.size),xm (RN (res:=[⟨q.r,y⟩]) (by simpa using QU) h4)⟩
     .cases hq
    .cases hq
   .cases hq
  .cases hq
theorem iD{o:Oper}{cl:Call}{fo:Operand}{f:FuncId}(ho:o.op = .call cl)(hc:cl.callee = .value fo)(hf:a.eval fo = .func (.func f) #[] #[])(rK:lG c.P f) :
  (execOp a.eval o).run c.P w = .ok (.enter f (cl.args.toList.map a.eval).toArray) w:=by
 obtain⟨fn,h1,h2,h3⟩:=rK;have h3':(fn.name = "runtime.NumGoroutine")=False:=by simpa using h3
 have CX:fn.body≠none:=by intro e;simp[e] at h2
 simp[execOp,ho,resolve,hc,Deferred.ofValue,hf,invoke,callFunc,h1,CX,h3'];apply b2v;simp
theorem aM.jQ{ev:Operand->AV}(cD:∀ x,VR c G lk w (ev x) (a.eval x)):∀ l:List Operand,aM (VR c G lk w) (l.map ev) (l.map a.eval)
 | []=>trivial
 | x::r=>⟨cD x,aM.jQ cD r⟩
theorem aM.zp{ev:Operand->AV}(cD:∀ x,VR c G lk w (ev x) (a.eval x)):∀ l:List (Nat×Operand),
  aM (λ p q=>p.1=q.1/\VR c G lk w p.2 q.2) (l.map λ p=>(p.1,ev p.2)) (l.map λ p=>(p.1,a.eval p.2))
 | []=>trivial
 | x::r=>⟨⟨rfl,cD x.2⟩,aM.zp cD r⟩
theorem iM{S:Nat->Prop}{t:Ty}{xs:List t.den}{x:Value}(h:dC w S ⟨.slice t,xs⟩ x):∃ ad cap,x = .slice ad xs.length cap/\xs.length<=cap/\xs.length<=140737488355328 /\
  (xs=[]\/∃ b o,ad=some ⟨b,o,none⟩/\S b/\cF w S (xs.map t.aE) b o):=by
 obtain⟨ad,cap,h1,h2,h3,h4,h5⟩:=h;simp only[List.cons.injEq,and_true,List.length_map] at h1;exact⟨ad,cap,h1,by simpa using h2,by simpa using h4,h5.imp (λ h=>by simpa using h) id⟩
theorem a3h(lo hi m n:Int)(h1:lo<=m/\m<=hi)(h2:lo<=n/\n<=hi):lo<=max m n/\max m n<=hi:=by omega
theorem a3g(m n:Int):(if n>m then n else m)=max m n:=by
 rw[Int.max_def];split<;>split<;>omega
theorem OI:∀ {us vs:List TV} {e:Bool},OH us vs=some e->us.length=vs.length/\(∀ u∈us,u.τ = .int .i64)
 | [],[],e,h=>⟨rfl,by simp⟩
 | ⟨.int .i64,a⟩::r,⟨.int .i64,b⟩::q,e,h=>by
  simp only[OH] at h;split at h
  .rename_i t ht;obtain⟨h1,h2⟩:=OI ht;exact⟨by simp[h1],λ u hu=>(a9k.1 hu).elim (λ e=>by rw[e]) (h2 u)⟩
  .cases h
theorem RJ(hE:bn c.P c.E)(d:Nat){xs ys:Array Value}:∀ (l:List Field) (us vs:List TV) (k:Nat) (e:Bool),OH us vs=some e->l.length=us.length ->
  (∀ i f,l[i]?=some f->f.name ≠ "_" /\ (∃ b e,af c.E.ty f.type=some (.int .i64,b,e))/\f.offset=k+i) ->
  (∀ i n,us[i]?=some ⟨.int .i64,n⟩->xs[k+i]?=some (.int .i64 n))->(∀ i n,vs[i]?=some ⟨.int .i64,n⟩->ys[k+i]?=some (.int .i64 n))->(Op.eqFields (d+1) xs ys l).run c.P w = .ok e w
 | [],[],[],k,e,h,_,_,_,_=>by
  simp only[OH,a8V] at h;subst h;rfl
 | f::l,⟨.int .i64,a⟩::r,⟨.int .i64,b⟩::q,k,e,h,hl,hf,hx,hy=>by
  simp only[OH] at h;split at h
  .rename_i t ht;simp only[Option.some.injEq] at h;subst h;obtain⟨n1,⟨b1,e1,n2⟩,n3⟩:=hf 0 f rfl;have ih:=RJ hE d l r q (k+1) t ht (by simpa using hl) (λ i f hi=>by
    obtain⟨m1,m2,m3⟩:=hf (i+1) f (by simpa using hi);exact⟨m1,m2,by rw[m3];omega⟩) (λ i n hi=>by have:=hx (i+1) n (by simpa using hi);rwa [show k+(i+1)=k+1+i by omega] at this) (λ i n hi=>by have:=hy (i+1) n (by simpa using hi);rwa [show k+(i+1)=k+1+i by omega] at this)
   have p1:∀ (zs:Array Value) n,zs[k]?=some (.int .i64 n)->(part f.type zs f.offset).run c.P w = .ok (.int .i64 n) w:=λ zs n hz=>by
    simp only[part,a9r,hE.isAgg n2,a9m,Ty.agg,a9R,b1M];rw[n3,b0P,hz];rfl
   simp only[Op.eqFields,a9l n1,a9r,p1 xs a (hx 0 a rfl),p1 ys b (hy 0 b rfl),a9m,run_equalIn_int w d f.type .i64 .i64 a b (hE.int n2)];by_cases MN:a=b
   .subst MN;simp only[beq_self_eq_true,a9N,a9R,b1M,ih,decide_true,b1s]
   .have:(a == b)=false:=by simpa using MN
    simp[this,MN]
  .cases h
theorem Rn{E:Env}{T:TypeId}{u:AV}{x:Value}(h:VR c G lk w u x):VR c G lk w (JZ E T u) x:=by
 cases u with
 | agg cs =>
  cases hl:af E.ty T with
  | none=>simp only[JZ,hl];exact h
  | some r =>
   obtain⟨τ,n⟩:=r;cases τ with
   | st s =>
    simp only[JZ,hl];cases hy:qt (λ _=>none) (.st s) (.agg cs) with
    | none=>exact h
    | some y=>exact zH (S:=G.S) (λ _ _ _ _ h hv=>HN h hv) (λ _ h=>h) hy h
   | _=>simp only[JZ,hl];exact h
 | _=>exact h
theorem XC(hE:bn c.P c.E){op:BinOp}{T:TypeId}{u v r:AV}{x y:Value}{p:Vc}(ox oy:Operand)
  (h:XB c.E op T u v=some (p,r)) (hu:VR c G lk w u x) (hv:VR c G lk w v y) :
  ∃ z,(do eqGuard op T ox oy x y;binOp op T x y:Sem Value).run c.P w = .ok z w/\VR c G lk w r z:=by
 unfold XB at h;split at h;case h_2=>cases h
 case h_1 s rest x0 y0 hl =>
 obtain⟨rb,re⟩:=rest;split at h;case h_2=>cases h
 case h_1 a b hca ha hb =>
 simp only[a9e,a9t] at hca;obtain⟨hc,hna⟩:=hca;split at h;case h_2=>cases h
 case h_1 e he =>
 have:=TV.aQ ha;subst this;have:=TV.aQ hb;subst this;have Kx:=hE.cmp T hc;unfold SI at Kx;simp only[Bool.and_eq_true,Bool.not_eq_true',List.all_eq_true,decide_eq_true_eq] at Kx;obtain⟨g1,g2,g3⟩:=Kx;obtain⟨fs,q1,q2,q3⟩:=hE.st hl hna;have hfo:c.P.fieldsOf T=fs:=by simp only[Program.fieldsOf,q1]
 obtain⟨hlen,hint⟩:=OI he;have fD:∀ (z:s.den),(∀ u∈s.fields z,u.τ = .int .i64)->s.cells z=s.fields z:=λ z hz=>by
  rw[aG.xF];have:∀ (l:List TV),(∀ u∈l,u.τ = .int .i64)->l.flatMap TV.cells=l:=λ l=>by
   induction l with
   | nil=>intro _;rfl
   | cons u l ih =>
    intro hu;rw[b1P,ih λ v hv=>hu v (b0u _ hv)];obtain⟨τ,n⟩:=u;have:=hu ⟨τ,n⟩ (by simp);simp only at this;subst this;rfl
  exact this _ hz
 have hft:∀ (z:s.den),(∀ t∈s.dc,t = .int .i64)->∀ u∈s.fields z,u.τ = .int .i64:=λ z hz u hu=>hz _ (by rw[<-aG.ns s z];exact a9b.2 ⟨u,hu,rfl⟩);have hty:∀ t∈s.dc,t = .int .i64:=λ t ht=>by
  rw[<-aG.ns s a] at ht;obtain⟨u,hu,rfl⟩:=a9b.1 ht;exact hint u hu
 have uF:∀ (z:s.den) (zv:Value),dC w G.S ⟨.st s,z⟩ zv->∃ cs:List Value,zv = .agg cs.toArray/\∀ i n,(s.fields z)[i]?=some ⟨.int .i64,n⟩->cs.toArray[0+i]?=some (.int .i64 n):=λ z zv hz=>by
  obtain⟨cs,k1,k2⟩:=hz;refine⟨cs,k1,λ i n hi=>?_⟩;rw[aG.bQ,fD z (hft z hty)] at k2;have k3:=cJ.sC.1 k2;have:∀ (us:List TV) (cs:List Value) (i:Nat),aM (λ v x=>Rd w G.S v.aE [x]) us cs->us[i]?=some ⟨.int .i64,n⟩->cs[i]?=some (.int .i64 n):=by
   intro us;induction us with
   | nil=>intro cs i _ hi;simp at hi
   | cons u us ih =>
    intro cs i h2 hi;cases cs with
    | nil=>exact h2.elim
    | cons x cs =>
     cases i with
     | zero =>
      simp only[List.getElem?_cons_zero,Option.some.injEq] at hi ⊢;subst hi;have h3:=h2.1;obtain⟨h4,_⟩:=h3;simpa using h4
     | succ i=>simpa using ih cs i h2.2 (by simpa using hi)
  simpa using this _ _ i k3 hi
 obtain⟨xs,rfl,iU⟩:=uF a x hu;obtain⟨ys,rfl,B7⟩:=uF b y hv;have a7g:∀ i,i<=s.dc.length->s.dx i=i:=λ i hi=>by
  unfold aG.dx;have:∀ (l:List Ty) (i:Nat),(∀ t∈l,t = .int .i64)->i<=l.length->((l.take i).map Ty.size).sum=i:=by
   intro l;induction l with
   | nil=>intro i _ hi;simp at hi;subst hi;rfl
   | cons t l ih =>
    intro i ht hi;cases i with
    | zero=>rfl
    | succ i =>
     rw[List.take_succ_cons,List.map_cons,List.sum_cons,ih i (λ u hu=>ht u (List.mem_cons_of_mem _ hu)) (by simpa using hi),ht t (by simp)];show 1+i=i+1;omega
  exact this _ i hty hi
 have cz:(Op.equalIn 10000 T (.agg xs.toArray) (.agg ys.toArray)).run c.P w = .ok e w:=by
  rw[run_equalIn_agg w 9999 T _ _ (by rw[q1,hfo]) g2,hfo];refine RJ hE 9998 fs.toList (s.fields a) (s.fields b) 0 e he ?_ (λ i f hi=>?_) iU B7
  .rw[a9P,q2,<-aG.ns s a,a9M]
  .have gI:fs[i]?=some f:=by simpa using hi
   obtain⟨t,b',e',m1,m2,m3⟩:=q3 i f gI;have ht:=hty t (a9C m1);subst ht;refine⟨g3 f (by rw[hfo];exact a9C hi),⟨b',e',m2⟩,?_⟩;rw[m3,a7g i (Nat.le_of_lt (a9p.1 m1).1),b0t]
 have hg:=run_eqGuard_agg w op T ox oy xs.toArray ys.toArray g1;split at h
 .simp only[a8V,a8Y] at h;obtain⟨rfl,rfl⟩:=h;exact⟨.bool e,by rw[a9r,hg,a9m,run_eql_struct,cz];rfl,rfl⟩
 .simp only[a8V,a8Y] at h;obtain⟨rfl,rfl⟩:=h;exact⟨.bool (!e),by rw[a9r,hg,a9m,run_neq_struct,cz];rfl,rfl⟩
 .cases h
theorem Vq(hE:bn c.P c.E){op:BinOp}{T:TypeId}{u v r:AV}{x y:Value}{p:Vc}(ox oy:Operand)
  (h:TL c.E op T u v=some (p,r)) (hp:p.ok) (hu:VR c G lk w u x) (hv:VR c G lk w v y) :
  ∃ z,(do eqGuard op T ox oy x y;binOp op T x y:Sem Value).run c.P w = .ok z w/\VR c G lk w r z:=by
 unfold TL at h;split at h
 .rename_i t r1 τ xs hl;have hy:y = .slice none 0 0:=hv;subst hy;obtain⟨r1,r2⟩:=r1;obtain⟨hT,_⟩:=hE.slice hl;obtain⟨a,cap,h1,_,h3⟩:=iM hu;subst h1;have heq:(Op.equal T (.slice a xs.length cap) (.slice none 0 0)).run c.P w = .ok a.isNone w:=by
   have h9:∀ d:Nat,(Op.equalIn (d+1) T (.slice a xs.length cap) (.slice none 0 0)).run c.P w = .ok a.isNone w:=λ d=>by
    cases a<;>simp[Op.equalIn,a9I hT]
   exact h9 9999
  have key:1<=xs.length->a.isNone=false:=λ hx=>by
   rcases h3.2 with h|⟨b,o,h,_⟩
   .subst h;simp at hx
   .subst h;rfl
  split at h
  .simp only[a8V,a8Y] at h;obtain⟨rfl,rfl⟩:=h;refine⟨.bool false,?_,rfl⟩;simp only[eqGuard_at_slice,a9r,a9u,a9m,binOp,heq,key hp]
  .simp only[a8V,a8Y] at h;obtain⟨rfl,rfl⟩:=h;refine⟨.bool true,?_,rfl⟩;simp only[eqGuard_at_slice,a9r,a9u,a9m,binOp,heq,key hp];rfl
  .cases h
 .exact XC hE ox oy h (Rn hu) (Rn hv)
theorem ZG{S:Nat->Prop}{t:Ty}{ys:List t.den}{ad:Option Addr}{m cap:Nat}(h1:ys.length=m)(h2:m<=cap)(h3:cap<=maxLen)(h4:m<=140737488355328)
  (h5:ys=[]\/∃ b o,ad=some ⟨b,o,none⟩/\S b/\cF w S (ys.map t.aE) b o):dC w S ⟨.slice t,ys⟩ (.slice ad m cap):=by
 subst h1;exact⟨ad,cap,by simp,by simpa using h2,h3,by simpa using h4,h5.imp (λ h=>by simp[h]) id⟩
theorem oG(hE:bn c.P c.E){T:TypeId}{t:Ty}{b e:Nat}(h:af c.E.ty T=some (.slice t,b,e)){bk o len cap:Nat}{k:IntKind}{i:Int}(h0:0<=i)(h1:i<len)(w:World) :
  (Instr.indexAt T (.slice (some ⟨bk,o,none⟩) len cap) (.int k i)).run c.P w = .ok (.pointer (some ⟨bk,o+i.toNat * t.size,none⟩)) w:=by
 obtain⟨h2,⟨b',e',h3⟩,_⟩:=hE.slice h;simp[Instr.indexAt,a9I h2,asIntOf,h0,h1,hE.sizeOf h3 w,b1o]
theorem Fl(s:aG)(y:s.den)(i:Nat){f:TV}(hf:(s.fields y)[i]?=some f):((s.cells y).drop (s.dx i)).take f.τ.size=f.cells/\s.dx i+f.τ.size<=s.size:=by
 have uI:∀ v:TV,v.cells.length=v.τ.size:=by
  rintro⟨τ,x⟩;cases τ<;>first|rfl|exact aG.fF _ _
 have key:∀ (l:List TV) (i:Nat) (f:TV),l[i]?=some f->((l.flatMap TV.cells).drop ((l.map TV.τ).take i |>.map Ty.size).sum).take f.τ.size=f.cells/\(((l.map TV.τ).take i).map Ty.size).sum+f.τ.size<=(l.flatMap TV.cells).length:=by
  intro l;induction l with
  | nil=>intro i f h;simp at h
  | cons g l ih =>
   intro i f h;cases i with
   | zero =>
    simp at h;subst h;have:=uI g;simp only[b1a,b0y,List.sum_nil,b2i,b1P,a9i,b0t];exact⟨by rw[<-this,b0Z],by omega⟩
   | succ i =>
    obtain⟨h1,h2⟩:=ih i f (by simpa using h);simp only[List.map_cons,List.take_succ_cons,List.sum_cons,List.flatMap_cons,List.length_append,<-uI g];refine⟨?_,by omega⟩;rw[<-List.drop_drop,List.drop_left];exact h1
 have:=key _ i f hf;rw[<-aG.xF,aG.ns,aG.fF] at this;exact this
theorem LZ{S:Nat->Prop}{s:aG}{y:s.den}{i:Nat}{f:TV}(hf:(s.fields y)[i]?=some f){cs:List Value}(h:Rd w S (TV.aE ⟨.st s,y⟩) cs):Rd w S f.aE ((cs.drop (s.dx i)).take f.τ.size):=by
 obtain⟨h1,_⟩:=Fl s y i hf;rw[show TV.aE ⟨.st s,y⟩=s.aE y from rfl,aG.bQ] at h;have h2:=((cJ.sC.1 h).drop (s.dx i)).take f.τ.size;rw[h1] at h2;obtain⟨τ,x⟩:=f;cases τ with
 | st s' =>
  show Rd w S (s'.aE x) _;rw[aG.bQ];exact cJ.sC.2 h2
 | _ =>
  simp only[TV.cells] at h2;match hc:(cs.drop (s.dx i)).take (Ty.size _),h2 with
  | [v],h2=>exact h2.1
theorem UH{S:Nat->Prop}{s:aG}{y:s.den}{i:Nat}{f:TV}(hf:(s.fields y)[i]?=some f){cs:List Value}(h:Rd w S (s.aE y) cs):s.dx i+f.τ.size<=cs.length/\True:=by
 obtain⟨_,h1⟩:=Fl s y i hf;have:=Rd.length _ h;rw[aG.bQ] at this;simp only[D.size,a9M,aG.fF] at this;exact⟨by omega,U⟩
theorem qi{n:aG}{i:Nat}{v r:AV}{x:Value}(h:Ir n i v=some r)(hx:VR c G lk w v x) :
  ∃ b o,x = .pointer (some ⟨b,o,none⟩)/\i<n.dc.length/\VR c G lk w r (.pointer (some ⟨b,o+n.dx i,none⟩)):=by
 unfold Ir at h;split at h
 .split at h
  .rename_i y hy;have e:=TV.aQ hy;subst e;split at h
   .rename_i f hf;simp only[a8V] at h;subst h;obtain⟨b,o',cs,h1,h2,h3,h4⟩:=hx;refine⟨b,o',h1,?_,b,o'+n.dx i,(cs.drop (n.dx i)).take f.τ.size,rfl,h2,h3.part _ _,LZ hf h4⟩;have:=(a9p.1 hf).1;rw[<-aG.ns n y,a9M];exact this
   .cases h
  .cases h
 .split at h
  .rename_i bj;simp only[Option.some.injEq] at h;subst h;have bj:i<n.dc.length:=by simpa [Nat.blt_eq] using bj
   obtain⟨b,h1,h2,h3⟩:=hx;exact⟨b,_,h2,bj,b,h1,rfl,h3⟩
  .cases h
 .split at h
  .rename_i bj;simp only[Option.some.injEq] at h;subst h;have bj:i<n.dc.length:=by simpa [Nat.blt_eq] using bj
   obtain⟨b,m,cap,e,τ,xs,h1,h2,h3,h4⟩:=hx;exact⟨b,_,h4,bj,b,m,cap,e,τ,xs,h1,h2,h3,by rw[b2o]⟩
  .cases h
 .cases h
theorem Is{n:aG}{i:Nat}{v r:AV}{x:Value}(h:NB n i v=some r)(hx:VR c G lk w v x) :
  ∃ (cs:List Value) (t:Ty),x = .agg cs.toArray/\n.dc[i]?=some t/\n.dx i+t.size<=cs.length/\VR c G lk w r (yZ t ((cs.drop (n.dx i)).take t.size)):=by
 unfold NB at h;split at h
 .split at h
  .rename_i y hy;have e:=TV.aQ hy;subst e;split at h
   .rename_i f hf;simp only[a8V] at h;subst h;obtain⟨cs,h1,h2⟩:=hx;have hty:n.dc[i]?=some f.τ:=by rw[<-aG.ns n y,b0w,hf];rfl
    obtain⟨h3,h4⟩:=UH hf h2;exact⟨cs,f.τ,h1,hty,h3,dC.mk_ (LZ hf h2)⟩
   .cases h
  .cases h
 .split at h
  .rename_i τ ep;obtain⟨l,h1,h2⟩:=hx;obtain⟨h3,h4,h5⟩:=CS h2 h;exact⟨l,τ,h1,ep,h5,h3⟩
  .cases h
 .cases h
theorem Ty.size_le(τ:Ty):τ.size<=100:=by
 have:∀ s:aG,s.size<=100:=by intro s;cases s<;>decide
 cases τ<;>first|exact this _|(simp[Ty.size];done)
theorem Rd.jt{S:Nat->Prop}{τ:Ty}{x:τ.den}{cs:List Value}(h:Rd w S (τ.aE x) cs):∀ u∈cs,u.oneCell'=true:=by
 cases τ with
 | st s =>
  rw[show Ty.aE (.st s) x=s.aE x from rfl,aG.bQ] at h;have ha:=cJ.sC.1 h;intro u hu;obtain⟨i,hi,hiu⟩:=b0K hu;have hlen:=ha.length;obtain⟨b,hb,hr⟩:=ha.at_ i (s.cells x)[i] (a9j (by omega));have hbu:b=u:=by
   have:cs[i]?=some u:=by rw[a9j hi,hiu]
   rw[this] at hb;exact (b0g hb).symm
  subst hbu;obtain⟨z,h1,h2⟩:=Rd.rZ (aG.nz s x _ (b0G _)) hr;simp only[a9a,a9q] at h1;subst h1;exact xb h2
 | _ =>
  obtain⟨z,rfl,h2⟩:=Rd.rZ (iz (v:=⟨_,x⟩) rfl) h;intro u hu;simp only[a9w] at hu;subst hu;exact xb h2
theorem cZ.jt{S:Nat->Prop}{τ:Ty}:∀ {xs:List τ.den} {l:List Value},cZ w S (xs.map τ.aE) l->∀ u∈l,u.oneCell'=true
 | [],l,h=>by rw[show l=[] from h];simp
 | x::xs,l,h=>by
  obtain⟨c1,r,rfl,h2,h3⟩:=h;intro u hu;rcases a8X.1 hu with hu|hu
  .exact Rd.jt h2 u hu
  .exact cZ.jt h3 u hu
def Src(w:World)(S:Nat->Prop)(τ:Ty)(ys:List τ.den)(z:Value):Prop :=
 ∃ ad cap,z = .slice ad ys.length cap/\(ys=[]\/∃ b o news,ad=some ⟨b,o,none⟩/\bm w b o news/\cZ w S (ys.map τ.aE) news)
theorem DF{lk lk':Nat->Option av}(bS:∀ id o,lk' id=some o->lk id=some o)(id:Nat)(o:av)(h:Jj lk' id=some o):lk id=some o:=by
 unfold Jj at h;split at h
 .cases h
 .exact bS id o h
theorem Vs{lk:Nat->Option av}(id:Nat)(τ:Ty)(xs:List τ.den):Jj lk id≠some (.aC τ xs):=by
 unfold Jj;split
 .simp
 .rename_i iv;exact iv _ _
theorem XT(ji:∀ id o,lk id=some o->OR c G lk w id o){lk':Nat->Option av}(bS:∀ id o,lk' id=some o->lk id=some o)(MT:∀ id τ xs,lk' id≠some (.aC τ xs)){τ:Ty}{v:AV}{z:Value}{ys:List τ.den}(h:iH lk' (.slice τ) v=some ys)
  (hv:C1 c G lk w v z):Src w G.S τ ys z:=by
 cases v with
 | aN u =>
  have e:=TV.aQ h;subst e;obtain⟨ad,cap,h1,h2,h3,h4⟩:=iM (show dC w G.S ⟨.slice τ,ys⟩ z from hv.2);refine⟨ad,cap,h1,h4.imp id ?_⟩;rintro⟨b,o,h5,h6,h7⟩;obtain⟨news,h8,h9⟩:=cF.cells _ b o h7;exact⟨b,o,news,h5,h9,h8⟩
 | nil =>
  simp only[iH,a8V] at h;subst h;exact⟨none,0,hv, .inl rfl⟩
 | row id =>
  simp only[iH] at h;split at h
  .rename_i e aT xs hl;have e1:=TV.aQ h;cases e1;have oj:=bS _ _ hl;obtain⟨l,h1,h2,h3⟩:=ji _ _ oj;rcases h1.2 with ⟨Tp,hn⟩|⟨g,cap,cur,Tp,_⟩
   .exact⟨none,0,by rw[hv.1,Tp,hn], .inl (b0d hn)⟩
   .refine⟨some ⟨g,0,none⟩,cap,by rw[hv.1,Tp], .inr ⟨g,0,l,rfl,?_,h2⟩⟩;intro j u hj;have:=h1.cells (g:=g) (by rw[Tp];rfl) j u hj;rw[b1o] at this;exact this
  .cases h
 | aC id =>
  simp only[iH] at h;split at h
  .rename_i hl;exact absurd hl (MT _ _ _)
  .cases h
 | _=>cases h
theorem LG{S:Nat->Prop}{base:Nat}(hE:bn c.P c.E){T:TypeId}{τ:Ty}{b e n:Nat}{v z:Value}{l:List Value}{ys:List τ.den}(hT:af c.E.ty T=some (.slice τ,b,e))(dF:w.ownsRow base e τ.size v n l)
  (Ku:base<=w.heap.size) (ff:Src w S τ ys z) (Ap:bz (n+ys.length) b) (ty:TypeId) :
  ∃ v' w' news,(Builtin.append_ #[T,T] ty #[v,z]).run c.P w = .ok v' w'/\w'.ownsRow base e τ.size v' (n+ys.length) (l++news)/\w.grownBy w' v.ownBlock/\(v'.ownBlock=v.ownBlock\/v'.ownBlock=some w.heap.size) /\
   cZ w S (ys.map τ.aE) news/\n+ys.length<=140737488355328:=by
 obtain⟨k1,⟨b',e',k2⟩,i,zv,k3,k4,k5,k6,k7⟩:=hE.slice hT;have Pk:zv.cells.size=τ.size:=by
  have:=Rd.length _ (JW (w:=w) (S:=S) k7);rwa [Ty.cq,a9P] at this
 have C7:=τ.size_pos;have Q0:(n+ys.length) * b<=140737488355328/\n+ys.length<=140737488355328:=by
  unfold bz at Ap;rw[Nat.mul_add,Nat.mul_one] at Ap;omega
 have IT:n+ys.length<=maxLen:=by simp only[maxLen];omega
 obtain⟨ad,cap,h1,h4⟩:=ff;subst h1;by_cases hy:ys=[]
 .subst hy;simp only[a9v,b0P] at *
  cases ad with
  | none =>
   refine⟨v,w,[],?_,by simpa using dF,⟨rfl,rfl,rfl,Nat.le_refl _,λ _ _ _=>rfl⟩, .inl rfl,rfl,Q0.2⟩;rcases dF.2 with ⟨rfl,rfl⟩|⟨g,Ot,cur,rfl,_,_,QY,_⟩
   .simp[Builtin.append_,a9I k1,sizeOf,typeInfo,k3,Builtin.lenOf,Builtin.firstCells]
   .simp[Builtin.append_,a9I k1,sizeOf,typeInfo,k3,Builtin.lenOf,Builtin.firstCells,QY,storeCells]
  | some ad =>
   obtain⟨v',w',m1,m2,m3,_,m5⟩:=run_append_own_at (P:=c.P) w base T ty e i zv τ.size b k1 k3 k6 k4 k5 Pk C7 v n l dF ad 0 cap [] (by simp) (by simp) (by simp) IT Q0.1 Ku;exact⟨v',w',[],m1,m2,m3,m5,rfl,Q0.2⟩
 .rcases h4 with h4|⟨bk,o',news,rfl,h8,h7⟩
  .exact absurd h4 hy
  .skip;have hlen:news.length=ys.length * τ.size:=by
    have:=cZ.length (n:=τ.size) _ h7 (by
     intro d hd;obtain⟨y,_,rfl⟩:=a9b.1 hd;exact Ty.cq τ y)
    simpa using this
   obtain⟨v',w',m1,m2,m3,_,m5⟩:=run_append_own_at (P:=c.P) w base T ty e i zv τ.size b k1 k3 k6 k4 k5 Pk C7 v n l dF ⟨bk,o',none⟩ ys.length cap news hlen (λ j u hj=>by rw[b1o];exact h8 j u hj) (cZ.jt h7) IT Q0.1 Ku;exact⟨v',w',news,m1,m2,m3,m5,h7,Q0.2⟩
theorem On{ev:Operand->AV}(cD:∀ x,VR c G lk w (ev x) (a.eval x)){d l:Int}{lo:Option Operand}(h:nQ d (lo.map ev)=some l):(lo=none/\l=d)\/∃ k,lo.map a.eval=some (.int k l):=by
 cases lo with
 | none =>
  simp only[b1X,nQ,a8V] at h;exact .inl ⟨rfl,h.symm⟩
 | some x =>
  simp only[b1v,nQ] at h;split at h
  .rename_i hn;cases hn
  .rename_i k n hn;simp only[a8V] at h hn;subst h;have hx:=cD x;rw[hn] at hx;obtain⟨hx,_⟩:=hx;simp only[a9a,a9q] at hx;exact .inr ⟨k,by simp[hx]⟩
  .cases h
theorem LO{ev:Operand->AV}(cD:∀ x,VR c G lk w (ev x) (a.eval x)){l h:Int}{len cap:Nat}{lo hi:Option Operand}(sl:Bool)(hl:nQ 0 (lo.map ev)=some l)(hh:nQ (len:Int) (hi.map ev)=some h)
  (hc:fv l h len) (C3:len<=cap) (P:Program) (w':World):(Instr.sliceBounds sl len cap (lo.map a.eval) (hi.map a.eval) none).run P w' = .ok (l.toNat,h.toNat,cap) w':=by
 obtain⟨h0,h1,h2⟩:=hc;have e1:(h.toNat:Int)=h:=b3g (by omega);rcases On cD hl with ⟨rfl,rfl⟩|⟨k,hk⟩<;>rcases On cD hh with ⟨rfl,rfl⟩|⟨k',eK⟩
 .simp[Instr.sliceBounds]
 .simp[Instr.sliceBounds,eK,b2Q,show 0<=h from by omega,show h<=(cap:Int) from by omega]
 .simp[Instr.sliceBounds,hk,b2Q,h0,h1]
 .simp[Instr.sliceBounds,hk,eK,b2Q,h0,h1,show 0<=h from by omega,show h<=(cap:Int) from by omega,e1]
theorem Mf{n m:Int}{b:Nat}(h:dh n m b):0<=n/\n<=m/\m<=140737488355328/\(b:Int) * m<=140737488355328:=by
 obtain⟨h1,h2,h3⟩:=h;have e:m * ((b:Int)+1)=m * b+m:=by rw[Int.mul_add,Int.mul_one]
 have p:0<=m * (b:Int):=Int.mul_nonneg (by omega) (by omega);have q:(b:Int) * m=m * b:=Int.mul_comm _ _;exact⟨h1,h2,by omega,by omega⟩
theorem Zq(hE:bn c.P c.E){T:TypeId}{τ:Ty}{b e:Nat}(hT:af c.E.ty T=some (.slice τ,b,e)){n m:Int}(h:dh n m b)(w:World)
  (cd:∀ w',bI (λ _=>False) w w'->∀ b,G.S b->w'.heap[b]?=w.heap[b]?) :
  ∃ cap cs,(Instr.makeSlice T (.int .i64 n) (.int .i64 m)).run c.P w = .ok (.slice (some ⟨w.heap.size,0,none⟩) n.toNat cap) (w.alloc (.cells cs e)) /\
   XQ c G lk (w.alloc (.cells cs e)) (.slice (some ⟨w.heap.size,0,none⟩) n.toNat cap) (.row e τ (List.replicate n.toNat τ.zero)):=by
 obtain⟨v1,v2,v3,v4⟩:=Mf h;obtain⟨h1,_,i,z,h3,h4,h5,h6,h7⟩:=hE.slice hT;have Zj:=JW (w:=w) (S:=G.S) h7;have Zi:=Rd.length _ Zj;rw[Ty.cq,a9P] at Zi;have hr:=run_make (P:=c.P) w T e i z h1 h3 h6 .i64 .i64 n m v1 v2 (by rw[h5];omega) (by omega);refine⟨m.toNat,madeCells z.cells (m.toNat * i.size),hr,(madeCells z.cells (n.toNat * z.cells.size)).toList,?_,?_,by simp;omega⟩
 .refine⟨by simp[madeCells,Zi], .inr ⟨w.heap.size,m.toNat,madeCells z.cells (m.toNat * i.size),by simp,a9F _,b0k w _,by simp;omega,by simp only[maxLen];omega,by simp[size_madeCells,h4],?_⟩⟩;rw[h4,Zi,List.length_replicate];exact Bv _ _ _ (b0H _ (by omega))
 .rw[b3n];exact cZ.aL (λ _ h=>h) (cd _ (eS w _)) _ (FA Zj n.toNat)
theorem bn.map(hE:bn c.P c.E){T:TypeId}{κ ε:Ty}(h:af c.E.K3 T=some (κ,ε))(w:World) :
  ∃ kT eT,c.P.underlying T=some (.map kT eT)/\Hy c.P kT κ/\κ.Fy=true/\ε.key=true/\∃ z,(zeroValue eT).run c.P w = .ok z w/\nI ε ε.zero z:=by
 have:=hE.K3 T κ ε h;unfold PN at this;split at this
 .rename_i k e hu;split at this
  .rename_i κ' r ε' r' hk he;simp only[a9e,a9d] at this;obtain⟨rfl,rfl,h3,h4,Pf⟩:=this;obtain⟨i,z,k1,k2,k3,k4⟩:=(hE.info he).ex;have hz:=JW (w:=w) (S:=λ _=>False) k4;refine⟨k,e,hu,?_,h3,h4,z,by simp[zeroValue,typeInfo,k1,k3],?_⟩
   .obtain⟨b,e'⟩:=r;cases κ' with
    | int q=>exact⟨Go.Maps.int_keyed (hE.int hk),λ x v h=>by
      obtain⟨h1,h2⟩:=h w (λ _=>False);simp only[List.cons.injEq,and_true] at h1;subst h1;exact⟨_,Go.Maps.keyOf_int_mk (hE.int hk) (by simpa [Lit.wf] using h2)⟩⟩
    | bool=>exact⟨Go.Maps.bool_keyed (hE.bool hk),λ x v h=>by
      have h1:=h w (λ _=>False);simp only[Ty.aE,Rd,a9a,a9q] at h1;subst h1;exact⟨_,Go.Maps.keyOf_bool_mk (hE.bool hk) _⟩⟩
    | str=>exact Hy.str (hE.str hk) w
    | st s =>
     simp only[Ty.Fy,a9e,a9d] at h3;obtain⟨e1,n1,n2⟩:=hE.arr hk h3.1;rw[h3.2.2] at n1 n2;obtain⟨b2,e2,n3⟩:=n2 (.int .i64) (by simp);obtain⟨i1,z1,i2,i3,_⟩:=(hE.info n3).ex;obtain⟨i4,z4,i5,i6,_⟩:=(hE.info hk).ex;have hA:Go.WideMaps.ArrKey c.P k e1 2:=⟨n1,by simp[Program.plainKey,hE.int n3],by simp[Program.cellsOf,i2,i3,Ty.size],by
      have:s.size=2:=by rw[<-aG.fF s s.zero,<-a9M (f:=TV.τ),aG.iQ,h3.2.1];rfl
      simp[Program.cellsOf,i5,i6,Ty.size,this]⟩
     refine⟨Go.Maps.Keyed.of_law hA.law,λ x v h=>?_⟩;obtain⟨a,b,_,rfl,ha,hb⟩:=h;refine⟨_,Go.WideMaps.keyOf_pair hA (hE.int n3) ?_ (by simpa [Lit.wf] using (show IntKind.i64.min<=a/\a<=IntKind.i64.max from ha)) (by simpa [Lit.wf] using (show IntKind.i64.min<=b/\b<=IntKind.i64.max from hb))⟩;have:0<c.P.types.size:=by simpa [Nat.blt_eq] using Pf
     exact⟨c.P.types.size - 1,by omega⟩
    | _=>cases h3
   .have hc:z.cells.toList=[z]:=by
     cases ε'<;>cases z<;>first|rfl|(cases h4;done)|(simp[xv,vO] at k4;done)
    rw[hc] at hz;exact nI.of h4 hz
  .cases this
 .cases this
theorem Hj(hE:bn c.P c.E)(hI:bd c G sl n lk a w){lk':Nat->Option av}(bS:∀ id o,lk' id=some o->lk id=some o){ev:Operand->AV}(cD:∀ x,VR c G lk w (ev x) (a.eval x))
  {o:Oper} {vc:Vc} {v:AV} {ob:Option av} (hq:Hi c.E lk' ev o=some (vc,v,ob)) (dY:vc.ok) {Q:Exit->Act->World->Prop} :
  o.wp c.P a w (vY c G sl n lk o.dst a w v ob) Q:=by
 unfold Hi at hq;split at hq;case h_1 x bf =>
  simp only[a8V,a8Y] at hq;obtain⟨rfl,rfl,rfl⟩:=hq;exact bW hI (by simp[execOp,bf]) (cD x)
 case h_2 x bf =>
  simp only[a8V,a8Y] at hq;obtain⟨rfl,rfl,rfl⟩:=hq;exact bW hI (by simp[execOp,bf]) (cD x)
 case h_3 cc x y bf =>
  split at hq
  .rename_i hc;simp only[a8V,a8Y] at hq;obtain⟨rfl,rfl,rfl⟩:=hq;have h1:=cD cc;rw[hc] at h1;have h1:[a.eval cc]=[.bool true]:=h1;simp only[a9a,a9q] at h1;exact bW hI (by simp[execOp,bf,h1,asBool]) (cD x)
  .rename_i hc;simp only[a8V,a8Y] at hq;obtain⟨rfl,rfl,rfl⟩:=hq;have h1:=cD cc;rw[hc] at h1;have h1:[a.eval cc]=[.bool false]:=h1;simp only[a9a,a9q] at h1;exact bW hI (by simp[execOp,bf,h1,asBool]) (cD y)
  .cases hq
 case h_4 T bf =>
  split at hq
  .rename_i d τ r hd hT;simp only[a8V,a8Y] at hq;obtain⟨rfl,rfl,rfl⟩:=hq;obtain⟨i,z,h1,h2,h3,h4⟩:=(hE.info hT).ex;refine tq hI (x := .pointer (some ⟨w.heap.size,0,none⟩)) (w':=w.alloc (.cells z.cells T)) ?_ (hI.alloc _) ⟨d,hd,rfl⟩ ?_ ?_
   .simp[execOp,bf,Instr.alloc,zeroValue,typeInfo,h1,h3,newVar,newRow]
   .exact⟨_,z.cells.toList,T,rfl,by simpa using heap_alloc_new w _,gf h4⟩
   .intro b hb;simp only[dk,a8V] at hb;subst hb;simp
  .cases hq
 case h_5 T x bf =>
  split at hq
  .rename_i d τ r hd hT;split at hq
   .split at hq
    .rename_i y hy;simp only[a8V,a8Y] at hq;obtain⟨rfl,rfl,rfl⟩:=hq;have ff:=dC.cells (yh (c:=c) (G:=G) (lk:=lk) hy (cD x));have hk:=eS w (.cells (a.eval x).cells T);have bZ:(w.alloc (.cells (a.eval x).cells T)).heap.size=w.heap.size+1:=by simp
     have vT:=hI.grow (S':=λ b=>G.S b\/b=w.heap.size) hk (λ b hb=>⟨λ h=>h.elim id λ e=>by omega, .inl⟩) (λ b hb=>by
      rcases hb with hb|hb
      .have:=hI.dI b hb;omega
      .omega)
     have cz:(execOp a.eval o).run c.P w = .ok (.value (.pointer (some ⟨w.heap.size,0,none⟩))) (w.alloc (.cells (a.eval x).cells T)):=by
      simp[execOp,bf,Instr.box,newVar,newRow]
     unfold Oper.wp;rw[cz];refine⟨_,_,rfl,vT,?_⟩;refine⟨w.heap.size,0,(a.eval x).cells.toList,rfl, .inl (.inr rfl),?_,Rd.aL (λ _ h => .inl h) (λ b hb=>hk.block b (hI.dI b hb) λ h=>h) _ ff⟩;have:=heap_alloc_new w (.cells (a.eval x).cells T);exact CA (p:=[]) (c:=(a.eval x).cells.toList) (r:=[]) (by simpa using this)
    .cases hq
   .split at hq
    .rename_i cs iG;simp only[a8V,a8Y] at hq;obtain⟨rfl,rfl,rfl⟩:=hq;obtain⟨h1,_,_⟩:=xE iG (cD x);refine tq hI (x := .pointer (some ⟨w.heap.size,0,none⟩)) (w':=w.alloc (.cells (a.eval x).cells T)) ?_ (hI.alloc _) ⟨d,hd,rfl⟩ ?_ ?_
     .simp[execOp,bf,Instr.box,newVar,newRow]
     .exact⟨_,(a.eval x).cells.toList,T,rfl,by simpa using heap_alloc_new w _,h1.imp λ u y _ hy=>hI.a4X (eS w _) hy⟩
     .intro b hb;simp only[dk,a8V] at hb;subst hb;simp
    .cases hq
  .cases hq
 case h_6 T parts bf =>
  split at hq
  .rename_i s r hT;split at hq
   .rename_i cs iG;simp only[a8V,a8Y] at hq;obtain⟨rfl,rfl,rfl⟩:=hq;obtain⟨i,z,h1,h2,h3,h4⟩:=(hE.info hT).ex;cases Yc:s.arr with
    | true =>
     obtain⟨e',h5,iu⟩:=hE.arr hT Yc;have Tl:∀ i t,s.dc[i]?=some t->(λ j=>some (j * c.P.cellsOf e',c.P.cellsOf e')) i=some (s.dx i,t.size):=by
      intro i t hi;obtain⟨e1,k1,⟨b',e2,k2⟩,k3⟩:=hE.SB hT Yc hi;rw[h5] at k1;simp only[a8V,b2T,b0z] at k1;subst k1;obtain⟨i',_,gI,bZ,_⟩:=(hE.info k2).ex;simp[k3,Program.cellsOf,gI,bZ]
     obtain⟨l',h8,h9⟩:=x7 (c:=c) (G:=G) (lk:=lk) (w:=w) Tl iG (aM.zp cD _) (gf h4);have hb:c.P.built T ((parts.map λ (i,x)=>(i,a.eval x)).toList)=some l'.toArray:=by
      unfold Program.built;rw[h1,h5];have C7:0<s.dc.length:=by
       revert Yc;cases s<;>first|(intro h;cases h;done)|(intro _;decide)
      obtain⟨b2,e2,k2⟩:=iu _ (b0G C7);obtain⟨i',_,gI,_,_⟩:=(hE.info k2).ex;simp only[h3,gI];rw[<-h8];have:c.P.cellsOf e'=i'.size:=by simp[Program.cellsOf,gI]
      rw[this];congr 1;simp
     refine bW hI (x := .agg l'.toArray) ?_ ⟨l',rfl,h9⟩;simp[execOp,bf,run_build w T _ _ hb]
    | false =>
    obtain⟨fs,h5,h6,h7⟩:=hE.st hT Yc;have Zd:fs.toList.mapM (λ f=>(c.P.info? f.type).map λ i=>(f.offset,i.size))=some (fs.toList.map λ f=>(f.offset,c.P.cellsOf f.type)):=by
     have:∀ l:List Field,(∀ f∈l,∃ i,c.P.info? f.type=some i)->l.mapM (λ f=>(c.P.info? f.type).map λ i=>(f.offset,i.size))=some (l.map λ f=>(f.offset,c.P.cellsOf f.type)):=by
      intro l;induction l with
      | nil=>intro _;rfl
      | cons f l ih =>
       intro hl;obtain⟨i,hi⟩:=hl f (by simp);simp[b1m,hi,ih λ f hf=>hl f (by simp[hf]),Program.cellsOf]
     refine this _ λ f hf=>?_;obtain⟨j,hj,hjf⟩:=List.getElem_of_mem hf;obtain⟨t,b,e,_,k2,_⟩:=h7 j f (by rw[Array.getElem?_eq_getElem (by simpa using hj)];simpa using hjf);obtain⟨i,_,hi,_⟩:=(hE.info k2).ex;exact⟨i,hi⟩
    have Tl:∀ i t,s.dc[i]?=some t->(fs.toList.map λ f=>(f.offset,c.P.cellsOf f.type)).toArray[i]?=some (s.dx i,t.size):=by
     intro i t hi;have bj:i<fs.size:=by have:=(a9p.1 hi).1;omega
     obtain⟨t',b,e,k1,k2,k3⟩:=h7 i fs[i] (a9S bj);rw[hi] at k1;simp only[a8V] at k1;subst k1;obtain⟨i',_,gI,bZ,_⟩:=(hE.info k2).ex;simp[bj,k3,Program.cellsOf,gI,bZ]
    obtain⟨l',h8,h9⟩:=x7 (c:=c) (G:=G) (lk:=lk) (w:=w) Tl iG (aM.zp cD _) (gf h4);have hb:c.P.built T ((parts.map λ (i,x)=>(i,a.eval x)).toList)=some l'.toArray:=by
     unfold Program.built;rw[h1,h5];simp only[h3,Zd];rw[<-h8];congr 1;simp
    refine bW hI (x := .agg l'.toArray) ?_ ⟨l',rfl,h9⟩;simp[execOp,bf,run_build w T _ _ hb]
   .cases hq
  .cases hq
 case h_7 T len parts bf =>
  split at hq
  .rename_i d τ b e hd hT;split at hq
   .rename_i hlen;split at hq
    .rename_i xs iU;simp only[a9e] at hlen;have MR:=a8W hlen.1;have hl2:=a9V hlen.2;subst MR;obtain⟨h1,⟨b',e',h2⟩,i,z,h3,h4,h5,h6,h7⟩:=hE.slice hT;have C7:=τ.size_pos;have IT:τ.size<=100:=Ty.size_le τ;have a6N:parts.size * τ.size<=16777216:=b0b (Nat.mul_le_mul hl2 IT) (by decide);obtain⟨r,h8,h9⟩:=Fk (c:=c) (G:=G) (lk:=lk) (w:=w) (τ:=τ) (place:=λ i=>some (i * τ.size,τ.size)) (λ _=>rfl) (l:=((Array.range (parts.size * τ.size)).map (λ j=>((if parts.size * τ.size=0 then #[] else z.cells:Array Value)[j % (if parts.size * τ.size=0 then #[] else z.cells:Array Value).size]!))).toList) iU (aM.zp cD _) (by simp);have qF:=Be iU;simp only[a9M,a9P] at qF;have bZ:∀ d∈xs.map τ.aE,d.size=τ.size:=by
      intro d hd;obtain⟨y,_,rfl⟩:=a9b.1 hd;exact Ty.cq τ y
     have hrl:=cZ.length _ h9 bZ;simp only[a9M,qF] at hrl;simp only[b1W,b1a,a9L,a9T] at h8;have cz:(execOp a.eval o).run c.P w = .ok (.value (.slice (some ⟨w.heap.size,0,none⟩) parts.size parts.size)) (w.alloc (.cells r.toArray e)):=by
      have e2:(parts.map λ (i,x)=>(i,a.eval x)).toList=parts.toList.map λ p=>(p.1,a.eval p.2):=by simp
      have iv:¬ (parts.size * τ.size>2 ^ 24):=by omega
      simp only[execOp,bf,Instr.buildSlice,a9r,a9I h1,a9m,hE.sizeOf h2,a9c iv,a9u];by_cases h0:parts.size * τ.size=0
      .simp only[h0,b0Y,a9r,a9u,a9m,e2] at h8 ⊢;rw[h8];simp[newRow]
      .simp only[h0,b1M,a9r,zeroValue,typeInfo,run_program,a9m,h3,h6,a9u,e2] at h8 ⊢;rw[h8];simp[newRow]
     have ho:(w.alloc (.cells r.toArray e)).ownsRow 0 e τ.size (.slice (some ⟨w.heap.size,0,none⟩) parts.size parts.size) xs.length r:=by
      rw[qF];have:=World.ownsRow_lit (base:=0) (e:=e) (size:=τ.size) w r.toArray parts.size (Nat.zero_le _) (by simp only[maxLen];omega) (by simpa using hrl);simpa using this
     have ff:=cZ.aL (λ _ h=>h) (λ b hb=>hI.Ua (eS w (.cells r.toArray e)) b (.inl hb)) _ h9;have gB:∀ b,dk (.slice (some ⟨w.heap.size,0,none⟩) parts.size parts.size)=some b->w.heap.size<=b/\b<(w.alloc (.cells r.toArray e)).heap.size:=by
      intro b hb;simp only[dk,a8V] at hb;subst hb;simp
     split at hq
     .simp only[a8V,a8Y] at hq;obtain⟨rfl,rfl,rfl⟩:=hq;exact YT hI cz (eS w _) ho ff (by omega) gB
     .simp only[a8V,a8Y] at hq;obtain⟨rfl,rfl,rfl⟩:=hq;exact tq hI cz (hI.alloc _) ⟨d,hd,rfl⟩ ⟨r,ho,ff,by omega⟩ gB
    .cases hq
   .cases hq
  .cases hq
 case h_8 T ad bf =>
  split at hq
  .rename_i τ r hT;split at hq
   .rename_i u hu;simp only[a8V,a8Y] at hq;obtain⟨rfl,rfl,rfl⟩:=hq;obtain⟨b,o',cs,h1,h2,h3,h4⟩:=ow hI.aH bS hu (cD ad);refine bW hI ?_ h4;simp only[execOp,bf,h1,a9r,gF hE hT h2 h3,a9m,a9u]
   .cases hq
  .cases hq
 case h_9 x bf =>
  have key:∀ u,ev x=u->(∃ b o,a.eval x = .pointer (some ⟨b,o,none⟩))->vc = .none->v=u->ob=none->o.wp c.P a w (vY c G sl n lk o.dst a w v ob) Q:=by
   rintro u hu ⟨b,o',hx⟩ _ rfl rfl;refine bW hI (x:=a.eval x) ?_ (hu ▸ cD x);simp only[execOp,bf,hx,a9u]
  have hx:=cD x;split at hq
  .rename_i u hu;simp only[a8V,a8Y] at hq;rw[hu] at hx;obtain⟨b,o',cs,h1,_⟩:=hx;exact key _ hu ⟨b,o',h1⟩ hq.1.symm hq.2.1.symm hq.2.2.symm
  .rename_i id off hu;simp only[a8V,a8Y] at hq;rw[hu] at hx;obtain⟨b,_,h1,_⟩:=hx;exact key _ hu ⟨b,off,h1⟩ hq.1.symm hq.2.1.symm hq.2.2.symm
  .rename_i id i off hu;simp only[a8V,a8Y] at hq;rw[hu] at hx;obtain⟨b,_,_,_,_,_,_,_,_,h1⟩:=hx;exact key _ hu ⟨b,_,h1⟩ hq.1.symm hq.2.1.symm hq.2.2.symm
  .cases hq
 case h_10 T x i bf =>
  split at hq
  .rename_i s r hT;split at hq
   .cases hq
   .rename_i ha;split at hq
    .rename_i u hu;simp only[a8V,a8Y] at hq;obtain⟨rfl,rfl,rfl⟩:=hq;obtain⟨b,o',h1,bj,h2⟩:=qi hu (cD x);refine bW hI (x := .pointer (some ⟨b,o'+s.dx i,none⟩)) ?_ h2;simp only[execOp,bf,h1,a9r,AR hE hT ha bj,a9m,a9u]
    .cases hq
  .cases hq
 case h_11 T x i bf =>
  split at hq
  .rename_i s r hT;split at hq
   .cases hq
   .rename_i ha;split at hq
    .rename_i u hu;simp only[a8V,a8Y] at hq;obtain⟨rfl,rfl,rfl⟩:=hq;obtain⟨cs,τ,h1,ep,h5,h3⟩:=Is hu (cD x);refine bW hI (x:=yZ τ ((cs.drop (s.dx i)).take τ.size)) ?_ h3;simp only[execOp,bf,h1,a9r,Xy hE hT ha ep h5,a9m,a9u]
    .cases hq
  .cases hq
 case h_12 T x ix bf =>
  split at hq
  .rename_i τ r hT;split at hq
   .rename_i k i hi;have ga:=cD ix;rw[hi] at ga;obtain⟨ga,_⟩:=ga;simp only[a9a,a9q] at ga;have hx:=cD x;split at hq
    .rename_i u hu;rw[hu] at hx;split at hq
     .rename_i xs iU;have e:=TV.aQ iU;subst e;simp only[a8V,a8Y] at hq;obtain⟨rfl,rfl,rfl⟩:=hq;obtain⟨h0,h1⟩:=dY;obtain⟨ad,cap,h2,h3,h4,h5⟩:=iM hx;rcases h5 with h5|⟨b,o',h5,h6,h7⟩
      .subst h5;simp only[a9v] at h1;omega
      .subst h5;have bj:i.toNat<xs.length:=by omega
       obtain⟨cs,m1,m2,m3⟩:=cF.at_ (n:=τ.size) _ b o' h7 (by
        intro d hd;obtain⟨y,_,rfl⟩:=a9b.1 hd;exact Ty.cq τ y) i.toNat (τ.aE (xs.getD i.toNat τ.zero)) (by simp[List.getD,bj])
       refine bW hI (x := .pointer (some ⟨b,o'+i.toNat * τ.size,none⟩)) ?_ ⟨b,_,cs,rfl, .inl h6,m3,m2⟩;simp only[execOp,bf,h2,ga,a9r,oG hE hT h0 h1,a9m,a9u]
     .cases hq
    .rename_i id hu;rw[hu] at hx;split at hq
     .rename_i e' aT xs hl;split at hq
      .rename_i ep;have ep:=a9y ep;subst ep;simp only[a8V,a8Y] at hq;obtain⟨rfl,rfl,rfl⟩:=hq;obtain⟨h0,h1⟩:=dY;obtain⟨h2,_,_⟩:=hx;have oj:=bS _ _ hl;obtain⟨l,m1,_,_⟩:=hI.aH _ _ oj;have bj:i.toNat<xs.length:=by omega
       rcases m1.2 with ⟨_,hn⟩|⟨g,cap,cur,hv,_⟩
       .omega
       .refine bW hI (x := .pointer (some ⟨g,0+i.toNat * aT.size,none⟩)) ?_ ⟨g,_,cap,e',aT,xs,hv,oj,bj,by simp⟩;simp only[execOp,bf,h2,hv,ga,a9r,oG hE hT h0 h1,a9m,a9u]
      .cases hq
     .cases hq
    .cases hq
   .cases hq
  .rename_i n r hT;split at hq
   .rename_i k i ha hi;have ga:=cD ix;rw[hi] at ga;obtain⟨ga,_⟩:=ga;simp only[a9a,a9q] at ga;split at hq
    .rename_i u hu;simp only[a8V,a8Y] at hq;obtain⟨rfl,rfl,rfl⟩:=hq;obtain⟨b,o',h1,bj,h2⟩:=qi hu (cD x);refine bW hI (x := .pointer (some ⟨b,o'+n.dx i,none⟩)) ?_ h2;simp only[execOp,bf,h1,ga,a9r,Qf hE hT ha bj,a9m,a9u]
    .cases hq
   .cases hq
  .cases hq
 case h_13 T x ix bf =>
  split at hq
  .rename_i r hT;split at hq
   .rename_i k i hi;have ga:=cD ix;rw[hi] at ga;obtain⟨ga,_⟩:=ga;simp only[a9a,a9q] at ga;have hx:=cD x;split at hq
    .rename_i xs hu;rw[hu] at hx;simp only[Option.some.injEq,Prod.mk.injEq] at hq;obtain⟨rfl,rfl,rfl⟩:=hq;obtain⟨s,h1,h2,h3⟩:=hx;simp only[List.cons.injEq,and_true] at h1;subst h2;have bZ:s.data.toList.length=s.size:=Array.length_toList;have dY:aB i s.data.toList.length:=dY;unfold aB at dY;rw[bZ] at dY;have bj:Int.toNat i<s.size:=by omega
     have he:s.data.toList.getD (Int.toNat i) 0=s[Int.toNat i]'bj:=by
      have h5:Int.toNat i<s.data.size:=bj;rw[List.getD_eq_getElem?_getD,List.getElem?_eq_getElem (by simpa using h5)];rfl
     have hr:(execOp a.eval o).run c.P w = .ok (.value (.int .u8 (s[Int.toNat i]'bj).toNat)) w:=by
      simp only[execOp,bf,h1,ga,a9r,run_index_string w T s k i (hE.str hT)];rw[dif_pos dY];rfl
     refine bW hI hr ⟨by rw[he],?_⟩;have:=(s.data.toList.getD (Int.toNat i) 0).toNat_lt;exact⟨b3m _,by simp only[IntKind.max,IntKind.signed,IntKind.bits,a9R,b1M];omega⟩
    .cases hq
   .cases hq
  .rename_i n r hT;split at hq
   .rename_i k i ha hi;have ga:=cD ix;rw[hi] at ga;obtain⟨ga,_⟩:=ga;simp only[a9a,a9q] at ga;split at hq
    .rename_i u hu;simp only[a8V,a8Y] at hq;obtain⟨rfl,rfl,rfl⟩:=hq;obtain⟨cs,τ,h1,ep,h5,h3⟩:=Is hu (cD x);refine bW hI (x:=yZ τ ((cs.drop (n.dx i)).take τ.size)) ?_ h3;simp only[execOp,bf,h1,ga,a9r,a1M hE hT ha ep h5,a9m,a9u]
    .cases hq
   .cases hq
  .cases hq
 case h_14 op T x y yt bf =>
  split at hq
  .rename_i p u hu;simp only[a8V,a8Y] at hq;obtain⟨rfl,rfl,rfl⟩:=hq;obtain⟨z,h1,h2⟩:=Vq hE x y hu dY (cD x) (cD y);refine bW hI ?_ h2;simp only[execOp,bf];rw[a9r,h1];rfl
  .split at hq
   .rename_i p u hu;simp only[a8V,a8Y] at hq;obtain⟨rfl,rfl,rfl⟩:=hq;obtain⟨z,h1,h2⟩:=Wq hE x y hu dY (cD x) (cD y);refine bW hI ?_ h2;simp only[execOp,bf];rw[a9r,h1];rfl
   .cases hq
 case h_15 op xt x bf =>
  split at hq
  .rename_i b hb;simp only[a8V,a8Y] at hq;obtain⟨rfl,rfl,rfl⟩:=hq;have hx:=cD x;rw[hb] at hx;have hx:[a.eval x]=[.bool b]:=hx;simp only[a9a,a9q] at hx;exact bW hI (x := .bool !b) (by simp[execOp,bf,hx,Op.unary]) rfl
  .rename_i k i hb;simp only[a8V,a8Y] at hq;obtain⟨rfl,rfl,rfl⟩:=hq;have hx:=cD x;rw[hb] at hx;obtain⟨hx,_⟩:=hx;simp only[a9a,a9q] at hx;have hr:=dP dY;have h0:(0:Int) - i = -i:=Int.zero_sub _;exact bW hI (x := .int k (-i)) (by simp[execOp,bf,hx,Op.unary,Op.intArith,h0,qV hr]) ⟨rfl,hr⟩
  .cases hq
 case h_16 src dst x bf =>
  split at hq
  .rename_i k1 r1 k2 r2 hs hd;split at hq
   .rename_i k3 i uP;simp only[a8V,a8Y] at hq;obtain⟨rfl,rfl,rfl⟩:=hq;have hx:=cD x;rw[uP] at hx;obtain⟨hx,_⟩:=hx;simp only[a9a,a9q] at hx;have hr:=dP dY;refine bW hI (x := .int k2 i) ?_ ⟨rfl,hr⟩;simp[execOp,bf,hx,convert,a9I (hE.int hs),a9I (hE.int hd),Conv.intToInt,qV hr]
   .cases hq
  .cases hq
 case h_18 t i bf =>
  split at hq
  .rename_i vs ht;split at hq
   .rename_i u hu;simp only[a8V,a8Y] at hq;obtain⟨rfl,rfl,rfl⟩:=hq;have hx:=cD t;rw[ht] at hx;obtain⟨l,h1,h2⟩:=hx;obtain⟨z,h3,h4⟩:=h2.at_ i u hu;refine bW hI (x:=z) ?_ ?_
    .simp[execOp,bf,Instr.extract,h1,h3]
    .cases u<;>first|exact h4|exact h4.elim|trivial
   .cases hq
  .cases hq
 case h_19 T l cc bf =>
  split at hq
  .rename_i d τ b e hd hT;split at hq
   .rename_i m m' hm hm';simp only[a8V,a8Y] at hq;obtain⟨rfl,rfl,rfl⟩:=hq;have hl:=cD l;have hc:=cD cc;rw[hm] at hl;rw[hm'] at hc;obtain⟨hl,_⟩:=hl;obtain⟨hc,_⟩:=hc;simp only[a9a,a9q] at hl hc;obtain⟨cap,cs,h1,h2⟩:=Zq (c:=c) (G:=G) (lk:=lk) hE hT dY w (λ w' hk b hb=>hI.Ua hk b (.inl hb));refine tq hI ?_ (hI.alloc _) ⟨d,hd,rfl⟩ h2 ?_
    .simp only[execOp,bf,hl,hc,a9r,h1,a9m,a9u]
    .intro b hb;simp only[dk,a8V] at hb;subst hb;simp
   .cases hq
  .cases hq
 case h_17 T x lo hi mx bf =>
  split at hq
  .rename_i τ r hT;have hx:=cD x;split at hq
   .rename_i u hu;rw[hu] at hx;split at hq
    .rename_i xs iU;have e:=TV.aQ iU;subst e;split at hq
     .rename_i l h hl hh;simp only[a8V,a8Y] at hq;obtain⟨rfl,rfl,rfl⟩:=hq;obtain⟨ad,cap,h2,h3,h4,h5⟩:=iM hx;obtain⟨k1,⟨b',e',k2⟩,_⟩:=hE.slice hT;have hb:=LO cD true hl hh dY h3 c.P w;obtain⟨v0,v1,v2⟩:=dY;have cz:(execOp a.eval o).run c.P w = .ok (.value (.slice (if cap=l.toNat then ad else ad.map (·.add (l.toNat * τ.size))) (h.toNat - l.toNat) (cap - l.toNat))) w:=by
       simp only[execOp,bf,h2,Instr.sliceAt,a9r,a9I k1,a9m,Instr.slice,b1X,hb,hE.sizeOf k2,a9u]
      refine bW hI cz ?_;have hlen:((xs.take h.toNat).drop l.toNat).length=h.toNat - l.toNat:=by
       rw[b0h,a9W];omega
      refine ZG hlen (by omega) ?_ (by omega) ?_
      .have:=hx;obtain⟨ad',Ot,m1,m2,m3,_⟩:=this;rw[h2] at m1;simp only[a9a,b0J,a9q] at m1;obtain⟨_,_,rfl⟩:=m1;omega
      .rcases a9O l.toNat h.toNat with bj|Tf
       .right;rcases h5 with h5|⟨b,o',rfl,h6,h7⟩
        .subst h5;simp only[a9v] at v2;omega
        .refine⟨b,o'+l.toNat * τ.size,?_,h6,?_⟩
         .rw[a9c (by omega)];simp[b1o]
         .rw[List.map_drop,List.map_take];refine cF.a0z _ _ _ _ (cF.a2o _ _ _ _ h7) ?_;intro d hd;obtain⟨y,_,rfl⟩:=a9b.1 (b1Y hd);exact Ty.cq τ y
       .left;exact b0d (by omega)
     .cases hq
    .cases hq
   .cases hq
  .rename_i r hT;have hx:=cD x;split at hq
   .rename_i xs hu;rw[hu] at hx;split at hq
    .rename_i l h hl hh;simp only[a8V,a8Y] at hq;obtain⟨rfl,rfl,rfl⟩:=hq;obtain⟨s,h1,h2,h3⟩:=hx;simp only[a9a,a9q] at h1;subst h2;have bZ:s.data.toList.length=s.size:=a9P;rw[bZ] at dY hh;have hb:=LO cD false hl hh dY (a9n _) c.P w;obtain⟨v0,v1,v2⟩:=dY;refine bW hI (x := .string (s.extract l.toNat h.toNat)) ?_ ⟨_,rfl,?_,?_⟩
     .have iv:¬ ((none:Option Value).isSome=true):=by simp
      simp only[execOp,bf,h1,Instr.sliceAt,a9r,a9I (hE.str hT),a9m,Instr.slice,b1X,a9c iv,hb,a9u]
     .rw[Lib.extract_data,List.drop_take]
     .have:(s.extract l.toNat h.toNat).size<=s.size:=by
       rw[ByteArray.size_extract];omega
      omega
    .cases hq
   .cases hq
  .cases hq
 case h_20 cl bf =>
  have dU:=aM.jQ cD cl.args.toList;split at hq
  .rename_i fY;split at hq
   .rename_i T v1 O1 xT;rw[xT] at dU;match iU:cl.args.toList.map a.eval,dU with
    | [x],dU =>
     have hx:=dU.1;have II:cl.argTypes = #[T]:=by rw[<-a9T (xs:=cl.argTypes),O1]
     have C9:cl.args.map a.eval = #[x]:=by rw[<-a9T (xs:=cl.args.map a.eval),b0S,iU]
     have O5:(execOp a.eval o)=(do let d <-resolve a.eval cl o.type;invoke d.target d.args):=by simp[execOp,bf]
     have IN:(execOp a.eval o).run c.P w=((Builtin.len_ #[T] o.type #[x]).run c.P w).andThen λ v w => .ok (.value v) w:=by
      rw[O5];simp[resolve,fY,invoke,builtin,II,C9]
     split at hq
     .rename_i t r hT;obtain⟨k1,_,_⟩:=hE.slice hT;have QT:c.P.elem T=r.2:=by simp[Program.elem,k1]
      have cz:∀ ad len cap,x = .slice ad len cap->(execOp a.eval o).run c.P w = .ok (.value (.int .i64 len)) w:=by
       intro ad len cap hxx;rw[IN,hxx,run_len_slice w T o.type ad len cap (by rw[QT];exact k1)];rfl
      have fe:∀ m:Nat,m<=140737488355328->IntKind.i64.min<=(m:Int)/\(m:Int)<=IntKind.i64.max:=λ m hm=>dP (k := .i64) ⟨by omega,by omega⟩;split at hq
      .simp only[a8V,a8Y] at hq;obtain⟨rfl,rfl,rfl⟩:=hq;exact bW hI (cz _ _ _ hx) ⟨rfl,fe 0 (by omega)⟩
      .rename_i t' xs;simp only[a8V,a8Y] at hq;obtain⟨rfl,rfl,rfl⟩:=hq;obtain⟨ad,cap,h2,h3,h4,h5⟩:=iM hx;exact bW hI (cz _ _ _ h2) ⟨rfl,fe _ h4⟩
      .rename_i id;split at hq
       .rename_i e' aT xs hl;simp only[a8V,a8Y] at hq;obtain⟨rfl,rfl,rfl⟩:=hq;obtain⟨h2,_,_⟩:=hx;have oj:=bS _ _ hl;obtain⟨ad,cap,h3,_,h4,_⟩:=iM (t:=aT) (Yv (hI.aH _ _ oj) oj);exact bW hI (cz _ _ _ (h2.trans h3)) ⟨rfl,fe _ h4⟩
       .cases hq
      .cases hq
     .rename_i r hT;split at hq
      .rename_i xs;simp only[a8V,a8Y] at hq;obtain⟨rfl,rfl,rfl⟩:=hq;obtain⟨s,h1,h2,h3⟩:=hx;simp only[a9a,a9q] at h1;subst h2;have bZ:s.data.toList.length=s.size:=a9P;have fe:ca .i64 (s.size:Int):=⟨by omega,by omega⟩;refine bW hI (x := .int .i64 s.size) ?_ ⟨by rw[bZ],by rw[bZ];exact dP fe⟩;rw[IN,h1,run_len_string w T o.type s (hE.str hT)];rfl
      .cases hq
     .rename_i hT;split at hq
      .rename_i id a4I hm _;split at hq
       .rename_i m hl;simp only[a8V,a8Y] at hq;obtain⟨rfl,rfl,rfl⟩:=hq;obtain⟨b,es,clock,k1,k2,k3⟩:=hI.aH _ _ (bS _ _ hl);obtain⟨kT,eT,u1,_⟩:=hE.map (κ:=a4I.1) (ε:=a4I.2) hm w;have QT:c.P.underlying T=some (.map (c.P.mapKeyOf T) (c.P.mapElemOf T)):=by simp[Program.mapKeyOf,Program.mapElemOf,u1]
        have hsm:=k3.small;have fe:ca .i64 (m.n:Int):=⟨by omega,by omega⟩;refine bW hI (x := .int .i64 m.n) ?_ ⟨rfl,dP fe⟩;rw[IN,hx.1,k1,run_len_map w T o.type b es clock QT k2,k3.len];rfl
       .cases hq
      .cases hq
     .cases hq
   .cases hq
  .rename_i fY;split at hq
   .rename_i d T T' hd O1;split at hq
    .rename_i τ b e OZ hT;split at hq
     .rename_i y xT;split at hq
      .rename_i ys B7;simp only[a8V,a8Y] at hq;obtain⟨rfl,rfl,rfl⟩:=hq;have OZ:=a8W OZ;subst OZ;rw[xT] at dU;match iU:cl.args.toList.map a.eval,dU with
       | [x,z],dU =>
        obtain⟨hx,hz,_⟩:=dU;have hx:x = .slice none 0 0:=hx;subst hx;have II:cl.argTypes = #[T,T]:=by rw[<-a9T (xs:=cl.argTypes),O1]
        have C9:cl.args.map a.eval = #[.slice none 0 0,z]:=by rw[<-a9T (xs:=cl.args.map a.eval),b0S,iU]
        have IN:(execOp a.eval o).run c.P w=((Builtin.append_ #[T,T] o.type #[.slice none 0 0,z]).run c.P w).andThen λ v w => .ok (.value v) w:=by
         simp[execOp,bf,resolve,fY,invoke,builtin,II,C9]
        have hzc:C1 c G lk w y z:=by
         refine hz.Si ?_;cases y with
         | aN u =>
          have e:=TV.aQ B7;subst e;rfl
         | nil=>rfl
         | row i=>rfl
         | aC i=>rfl
         | _=>cases B7
        have ff:=XT hI.aH (DF bS) Vs B7 hzc;obtain⟨v',w',news,m1,m2,m3,m4,m5,m6⟩:=LG (w:=w) (base:=w.heap.size) hE hT (World.ownsRow_nil w _ e τ.size) (Nat.le_refl _) ff (n:=0) (by rw[Nat.zero_add];exact dY) o.type;have hk:bI (λ _=>False) w w':=⟨m3.os,m3.tape,m3.output,m3.size,λ b hb _=>m3.block b hb (by simp[Value.ownBlock])⟩;simp only[Nat.zero_add,List.nil_append] at m2;refine tq hI (x:=v') (w':=w') ?_ (hI.grow (S':=G.S) hk (λ _ _=>Iff.rfl) (λ b hb=>Nat.lt_of_lt_of_le (hI.dI b hb) hk.size)) ⟨d,hd,rfl⟩ ⟨news,?_,?_,by simpa using m6⟩ ?_
        .rw[IN,m1];rfl
        .exact⟨m2.1,m2.2.imp id λ ⟨g,cap,cur,q1,q2,q3⟩=>⟨g,cap,cur,q1,a9F _,q3⟩⟩
        .exact cZ.aL (λ _ h=>h) (λ b hb=>hI.Ua hk b (.inl hb)) _ m5
        .intro b hb;have MU:=(pY (w:=w') (v:=v') (e:=e) ⟨m2.1,m2.2.imp id λ ⟨g,cap,cur,q1,q2,q3⟩=>⟨g,cap,cur,q1,a9F _,q3⟩⟩);have cm:v'.ownBlock=some b:=MU.trans hb;exact m2.lt b cm
      .cases hq
     .cases hq
    .cases hq
   .cases hq
  .rename_i fY;split at hq
   .rename_i k m k' n xT;split at hq
    .rename_i hk;have hk:=a9y hk;subst hk;simp only[a8V,a8Y] at hq;obtain⟨rfl,rfl,rfl⟩:=hq;rw[xT] at dU;match iU:cl.args.toList.map a.eval,dU with
     | [x,z],dU =>
      obtain⟨⟨hx,hx2⟩,⟨hz,MW⟩,_⟩:=dU;simp only[a9a,a9q] at hx hz;subst hx hz;have C9:cl.args.map a.eval = #[.int k' m, .int k' n]:=by rw[<-a9T (xs:=cl.args.map a.eval),b0S,iU]
      refine bW hI (x := .int k' (max m n)) ?_ ⟨rfl,?_⟩
      .have hm:=a3g m n;simp[execOp,bf,resolve,fY,invoke,builtin,C9,Builtin.max_,Builtin.max2];exact hm
      .exact a3h _ _ _ _ hx2 MW
    .cases hq
   .cases hq
  .rename_i f fY;exact LS hE hI bS hq dY dU (λ rK=>iD bf fY rfl rK)
  .rename_i t fY;split at hq
   .rename_i f hf;have hx:=cD (.tmp t);rw[hf] at hx;exact LS hE hI bS hq dY dU (λ rK=>iD bf fY hx rK)
   .rename_i f cs hf;have hx:=cD (.tmp t);rw[hf] at hx;exact Cx hE hI bS hq dY dU bf fY hx
   .rename_i v hf;have hx:=cD (.tmp t);rw[hf] at hx;exact Cx hE hI bS hq dY dU bf fY hx
   .cases hq
  .cases hq
 case h_21 T bf =>
  split at hq
  .rename_i d κ ε hd hT;simp only[a8V,a8Y] at hq;obtain⟨rfl,rfl,rfl⟩:=hq;obtain⟨kT,eT,u1,u2,u3,u4,_⟩:=hE.map hT w;refine tq hI (x := .map (some w.heap.size)) (w':=w.alloc (.map #[] 0)) ?_ (hI.alloc _) ⟨d,hd,rfl⟩ ⟨_,_,_,rfl,(b3o w _).1,vZ.empty u3 u4⟩ ?_
   .simp[execOp,bf,Instr.makeMap]
   .intro b hb;simp only[dk,a8V] at hb;subst hb;simp
  .cases hq
 case h_22 T x ix ok bf =>
  split at hq
  .rename_i κ ε hT;split at hq
   .rename_i id k hx ga;split at hq
    .rename_i m hl;split at hq
     .rename_i f n hm;have e1:=MV.aQ hm;subst e1;obtain⟨kT,eT,u1,u2,u3,u4,z,hz,Zj⟩:=hE.map hT w;have uP:=cD x;rw[hx] at uP;obtain⟨b,es,clock,k1,k2,k3⟩:=hI.aH _ _ (bS _ _ hl);have hkr:zD κ k (a.eval ix):=zD.of u3 (yh ga (cD ix));obtain⟨y,y1,y2⟩:=k3.af (P:=c.P) u1 u2 k2 hz Zj hkr ok;have cz:(execOp a.eval o).run c.P w = .ok (.value (if ok then .tuple #[y, .bool (f k).isSome] else y)) w:=by
       have hxx:a.eval x = .map (some b):=uP.1.trans k1;have:(execOp a.eval o)=(do let r <-Instr.lookup T (a.eval x) (a.eval ix) ok;pure (.value r)):=by simp[execOp,bf]
       rw[this,hxx];simp[y2,Result.andThen]
      have hyv:dC w G.S ⟨ε,(f k).getD ε.zero⟩ y:=by
       have:=y1 w G.S;cases ε with
       | int q=>exact this
       | bool=>exact this
       | str=>exact this
       | _=>cases u4
      cases ok with
      | true =>
       simp only[a8V,a8Y] at hq;obtain⟨rfl,rfl,rfl⟩:=hq;exact bW hI cz ⟨[y, .bool (f k).isSome],rfl,hyv,rfl,U⟩
      | false =>
       simp only[a8V,a8Y] at hq;obtain⟨rfl,rfl,rfl⟩:=hq;exact bW hI cz hyv
     .cases hq
    .cases hq
   .cases hq
  .cases hq
 case h_23 fn first captured bf =>
  split at hq
  .rename_i f a2W C3;have iG:=aM.jQ cD captured.toList;have cz:(execOp a.eval o).run c.P w = .ok (.value (.func (.func f) #[] (captured.toList.map a.eval).toArray)) w:=by
    have hf:first = #[]:=by rw[<-a9T (xs:=first),a2W]
    simp[execOp,bf,Instr.makeFunc,hf];apply b2v;simp
   split at hq
   .rename_i iK;simp only[a8V,a8Y] at hq;obtain⟨rfl,rfl,rfl⟩:=hq;rw[iK] at iG;match hl:captured.toList.map a.eval,iG with
    | [],_ =>
     rw[hl] at cz;exact bW hI cz rfl
   .simp only[a8V,a8Y] at hq;obtain⟨rfl,rfl,rfl⟩:=hq;exact bW hI cz ⟨_,rfl,iG.imp λ u y hu hy=>hy.V5 (a9H.1 C3 u hu)⟩
  .cases hq
 case h_24=>cases hq
end
end Go.Proofs.YtofnjfpeimhifaaGreatDoor

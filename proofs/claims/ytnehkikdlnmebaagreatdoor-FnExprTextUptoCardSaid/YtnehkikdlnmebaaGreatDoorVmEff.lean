/- VmTypes, VmCore, VmRead, VmOwn, VmMap, VmInv, VmEnv, VmVals, VmRuns, VmMake, VmOps, VmEff. -/
import Derived.KernelRfl
import GoSem.Claim
import Derived.Orders
import Derived.Laws.AppendOwn
import Derived.Laws.OwnMore
import Derived.Below
import Derived.MapKept
import Derived.Calls
import Derived.Laws.Cells
import Derived.Laws.Slices
import Derived.Laws.Strings
import Derived.Maps.AppendAt
import Derived.IntWalk
import Derived.Laws.Small
import Derived.Laws.CopyRow
import Derived.Lib.Strings
set_option linter.all false
namespace Go.Proofs.YtnehkikdlnmebaaGreatDoor
def a6W:=@Option.bind_eq_some_iff
def a5E:=@Option.some.injEq
def a6n:=@List.map_cons
def a7C:=@List.map_nil
def a5L:=@List.cons.injEq
def a5R:=@and_true
def a8q:=@Go.World.cell?_of_block
def a6G:=@Nat.add_mul
def a5U:=@List.length_append
def a5O:=@List.length_cons
def a7o:=@List.getElem?_append_left
def a5W:=@List.getElem?_eq_some_iff
def a8z:=@Nat.add_assoc
def a6w:=@Nat.lt_or_ge
def a6V:=@List.getElem?_append_right
def a7v:=@List.drop_eq_nil_of_le
def a6C:=@List.nil_append
def a8h:=@Nat.add_sub_cancel_left
def a5I:=@Bool.and_eq_true
def a8b:=@List.drop_drop
def a7L:=@List.drop_left
def a9i:=@List.take_append
def a6O:=@List.take_of_length_le
def a8K:=@Nat.zero_mul
def a8c:=@List.drop_zero
def a7M:=@List.take_left
def a8d:=@List.take_zero
def a6X:=@Nat.zero_add
def a6F:=@List.mem_of_getElem?
def a6x:=@Go.run_underlying
def a8l:=@Go.MapKept.run_getObj_map
def a8G:=@List.getElem?_cons_zero
def a8D:=@List.pairwise_cons
def a9b:=@Array.toList_push
def a6t:=@List.mem_singleton
def a5G:=@List.mem_append
def a9c:=@List.ext_getElem?
def a5T:=@if_pos
def a7p:=@List.getElem_of_mem
def a8r:=@List.getElem_mem
def a6b:=@Nat.le_refl
def a7T:=@Nat.le_trans
def a5Q:=@Nat.lt_of_lt_of_le
def a5P:=@List.mem_cons
def a7N:=@Iff.rfl
def a6s:=@Array.getD_eq_getD_getElem?
def a8V:=@Array.getElem?_setIfInBounds
def a6r:=@Option.map_eq_some_iff
def a5J:=@if_neg
def a7O:=@if_true
def a5F:=@Nat.eq_of_beq_eq_true
def a6f:=@of_decide_eq_true
def a7j:=@Go.Addr.add_lit
def a6d:=@Go.Sem.run_bind
def a6e:=@Go.Sem.run_pure
def a5S:=@Go.Result.andThen_ok
def a7D:=@Nat.add_zero
def a6I:=@List.eq_nil_of_length_eq_zero
def a7h:=@Go.Value.tuple.injEq
def a8s:=@List.toArray_inj
def a5V:=@List.getElem?_eq_getElem
def a6Z:=@Option.some.inj
def a6i:=@List.all_eq_true
def a7H:=@List.drop_eq_getElem_cons
def a6H:=@Nat.le_of_ble_eq_true
def a6R:=@List.length_take
def a6S:=@List.length_drop
def a6Y:=@List.getElem?_take
def a7y:=@List.getElem?_drop
def a5K:=@List.mem_map
def a8B:=@Go.Value.pointer.injEq
def a7K:=@Go.Addr.mk.injEq
def a9q:=@eq_of_heq
def a5X:=@Int.toNat_natCast
def a5H:=@Prod.mk.injEq
def a9G:=@Go.ByteArray.toList_eq
def a8L:=@Bool.eq_iff_iff
def a9d:=@Go.eqGuard_at_string
def a6y:=@Array.length_toList
def a6M:=@Array.getElem?_eq_getElem
def a9z:=@Array.ext'
def a6h:=@Bool.false_eq_true
def a9A:=@if_false
def a8S:=@List.take_succ_cons
def a7k:=@List.foldl_cons
def a6u:=@List.append_assoc
def a6a:=@List.length_nil
def a8g:=@List.take_length
def a7a:=@List.append_nil
def a8t:=@List.replicate_succ'
def a6B:=@List.length_map
def a9e:=@List.flatMap_cons
def a9F:=@List.sum_cons
def a9t:=@Nat.mul_one
def a9f:=@Go.run_append_own_at
def a8M:=@Option.map_none
def a9r:=@Option.map_some
def a9v:=@Go.run_sliceBound
def a6N:=@Nat.zero_le
def a7f:=@Go.heap_alloc_new
def a7A:=@Nat.mul_le_mul_right
def a9L:=@List.map_replicate
def a5M:=@decide_eq_true_eq
def a8m:=@List.mapM_cons
def a6K:=@Array.toArray_toList
def a7w:=@List.getElem?_map
def a7B:=@Go.Value.slice.injEq
def a7P:=@Array.toList_map
def a6o:=@List.getD_eq_getElem?_getD
def a9R:=@Go.setRow_heap
def a9s:=@Nat.min_eq_left
def a7V:=@List.length_set
def a8E:=@List.map_set
def a7l:=@List.map_append
def TJ:List Nat:=[]
inductive D where
 | int (k:IntKind) (n:Int)
 | bool (b:Bool)
 | str (s:List UInt8)
 | slice (n:Nat) (xs:List D)
 | agg (xs:List D)
 | hole
 | ptr
def ZZ{α:Type}(n:Nat)(f:α->D):Option (List α)->D
 | none => .hole
 | some l => .slice n (l.map f)
inductive aR where
 | sig
 | expr
 | oExpr
 | word
 | reader
 | l00Src
 | l01Gen
 deriving DecidableEq
inductive Ty where
 | int (k:IntKind)
 | bool
 | str
 | slice (t:Ty)
 | st (s:aR)
 | mv (t:Ty)
 | ptr
 deriving DecidableEq
structure aD where
 aE:Int
 ai:Int
structure O where
 ah:Int
 bc:Int
 V:List (O)
structure o7 where
 ah:Int
 bc:Int
 V:Option (List (O))
structure bl where
 az:List (Int)
 aA:List (Int)
structure nf where
 text:List UInt8
 U:Int
structure na where
 J:List (Int)
 U:Int
 M:Int
structure nb where
 s:Unit
 g:aD
 left:Int
@[reducible] def aR.den:aR->Type
 | .sig=>aD
 | .expr=>O
 | .oExpr=>o7
 | .word=>bl
 | .reader=>nf
 | .l00Src=>na
 | .l01Gen=>nb
@[reducible] def Ty.den:Ty->Type
 | .int _=>Int
 | .bool=>Bool
 | .str=>List UInt8
 | .slice t=>List t.den
 | .st s=>s.den
 | .mv t=>Option (List t.den)
 | .ptr=>Unit
structure TV where
 τ:Ty
 x:τ.den
def TV.Z9(τ:Ty)(v:TV):Option τ.den:=if h:v.τ=τ then some (h ▸ v.x) else none
theorem TV.bd{τ:Ty}{v:TV}{x:τ.den}(h:v.Z9 τ=some x):v=⟨τ,x⟩:=by
 unfold TV.Z9 at h
 split at h
 .rename_i e
  subst e
  cases v
  simp at h
  subst h
  rfl
 .cases h
@[simp] theorem TV.Tk(τ:Ty)(x:τ.den):TV.Z9 τ ⟨τ,x⟩=some x:=by simp[TV.Z9]
def aR.fields:(s:aR)->s.den->List TV
 | .sig,x=>[⟨.int .i64,x.aE⟩,⟨.int .i64,x.ai⟩]
 | .expr,x=>[⟨.int .i64,x.ah⟩,⟨.int .i64,x.bc⟩,⟨.slice (.st .expr),x.V⟩]
 | .oExpr,x=>[⟨.int .i64,x.ah⟩,⟨.int .i64,x.bc⟩,⟨.mv (.st .expr),x.V⟩]
 | .word,x=>[⟨.slice (.int .i64),x.az⟩,⟨.slice (.int .i64),x.aA⟩]
 | .reader,x=>[⟨.str,x.text⟩,⟨.int .i64,x.U⟩]
 | .l00Src,x=>[⟨.slice (.int .u8),x.J⟩,⟨.int .i64,x.U⟩,⟨.int .u64,x.M⟩]
 | .l01Gen,x=>[⟨.ptr,x.s⟩,⟨.st .sig,x.g⟩,⟨.int .i64,x.left⟩]
def aR.cells:(s:aR)->s.den->List TV
 | .sig,x=>[⟨.int .i64,x.aE⟩,⟨.int .i64,x.ai⟩]
 | .expr,x=>[⟨.int .i64,x.ah⟩,⟨.int .i64,x.bc⟩,⟨.slice (.st .expr),x.V⟩]
 | .oExpr,x=>[⟨.int .i64,x.ah⟩,⟨.int .i64,x.bc⟩,⟨.mv (.st .expr),x.V⟩]
 | .word,x=>[⟨.slice (.int .i64),x.az⟩,⟨.slice (.int .i64),x.aA⟩]
 | .reader,x=>[⟨.str,x.text⟩,⟨.int .i64,x.U⟩]
 | .l00Src,x=>[⟨.slice (.int .u8),x.J⟩,⟨.int .i64,x.U⟩,⟨.int .u64,x.M⟩]
 | .l01Gen,x=>[⟨.ptr,x.s⟩,⟨.int .i64,x.g.aE⟩,⟨.int .i64,x.g.ai⟩,⟨.int .i64,x.left⟩]
def aR.size:aR->Nat
 | .sig=>2
 | .expr=>3
 | .oExpr=>3
 | .word=>2
 | .reader=>2
 | .l00Src=>3
 | .l01Gen=>4
def aR.uV:aR->List Ty
 | .sig=>[.int .i64, .int .i64]
 | .expr=>[.int .i64, .int .i64, .slice (.st .expr)]
 | .oExpr=>[.int .i64, .int .i64, .mv (.st .expr)]
 | .word=>[.slice (.int .i64), .slice (.int .i64)]
 | .reader=>[.str, .int .i64]
 | .l00Src=>[.slice (.int .u8), .int .i64, .int .u64]
 | .l01Gen=>[.ptr, .int .i64, .int .i64, .int .i64]
def aR.gV:aR->List Ty
 | .sig=>[.int .i64, .int .i64]
 | .expr=>[.int .i64, .int .i64, .slice (.st .expr)]
 | .oExpr=>[.int .i64, .int .i64, .mv (.st .expr)]
 | .word=>[.slice (.int .i64), .slice (.int .i64)]
 | .reader=>[.str, .int .i64]
 | .l00Src=>[.slice (.int .u8), .int .i64, .int .u64]
 | .l01Gen=>[.ptr, .st .sig, .int .i64]
def aR.iL:(s:aR)->List TV->Option s.den
 | .sig,[a0,a1]=>(a0.Z9 (.int .i64)).bind λ b0=>(a1.Z9 (.int .i64)).bind λ b1=>some (aD.mk b0 b1)
 | .expr,[a0,a1,a2]=>(a0.Z9 (.int .i64)).bind λ b0=>(a1.Z9 (.int .i64)).bind λ b1=>(a2.Z9 (.slice (.st .expr))).bind λ b2=>some (O.mk b0 b1 b2)
 | .oExpr,[a0,a1,a2]=>(a0.Z9 (.int .i64)).bind λ b0=>(a1.Z9 (.int .i64)).bind λ b1=>(a2.Z9 (.mv (.st .expr))).bind λ b2=>some (o7.mk b0 b1 b2)
 | .word,[a0,a1]=>(a0.Z9 (.slice (.int .i64))).bind λ b0=>(a1.Z9 (.slice (.int .i64))).bind λ b1=>some (bl.mk b0 b1)
 | .reader,[a0,a1]=>(a0.Z9 (.str)).bind λ b0=>(a1.Z9 (.int .i64)).bind λ b1=>some (nf.mk b0 b1)
 | .l00Src,[a0,a1,a2]=>(a0.Z9 (.slice (.int .u8))).bind λ b0=>(a1.Z9 (.int .i64)).bind λ b1=>(a2.Z9 (.int .u64)).bind λ b2=>some (na.mk b0 b1 b2)
 | .l01Gen,[a0,a1,a2,a3]=>(a0.Z9 (.ptr)).bind λ b0=>(a1.Z9 (.int .i64)).bind λ b1=>(a2.Z9 (.int .i64)).bind λ b2=>(a3.Z9 (.int .i64)).bind λ b3=>some (nb.mk b0 (aD.mk b1 b2) b3)
 | _,_=>none
theorem aR.oY:∀ {s:aR} {l:List TV} {x:s.den},s.iL l=some x->s.cells x=l:=by
 intro s l x h
 cases s
 case sig =>
  match l,h with
  | [a0,a1],h =>
   simp only[aR.iL,a6W,a5E] at h
   obtain⟨b0,h0,⟨b1,h1,rfl⟩⟩:=h
   have e0:=TV.bd h0;have e1:=TV.bd h1
   subst e0 e1
   rfl
 case expr =>
  match l,h with
  | [a0,a1,a2],h =>
   simp only[aR.iL,a6W,a5E] at h
   obtain⟨b0,h0,⟨b1,h1,⟨b2,h2,rfl⟩⟩⟩:=h
   have e0:=TV.bd h0;have e1:=TV.bd h1;have e2:=TV.bd h2
   subst e0 e1 e2
   rfl
 case oExpr =>
  match l,h with
  | [a0,a1,a2],h =>
   simp only[aR.iL,a6W,a5E] at h
   obtain⟨b0,h0,⟨b1,h1,⟨b2,h2,rfl⟩⟩⟩:=h
   have e0:=TV.bd h0;have e1:=TV.bd h1;have e2:=TV.bd h2
   subst e0 e1 e2
   rfl
 case word =>
  match l,h with
  | [a0,a1],h =>
   simp only[aR.iL,a6W,a5E] at h
   obtain⟨b0,h0,⟨b1,h1,rfl⟩⟩:=h
   have e0:=TV.bd h0;have e1:=TV.bd h1
   subst e0 e1
   rfl
 case reader =>
  match l,h with
  | [a0,a1],h =>
   simp only[aR.iL,a6W,a5E] at h
   obtain⟨b0,h0,⟨b1,h1,rfl⟩⟩:=h
   have e0:=TV.bd h0;have e1:=TV.bd h1
   subst e0 e1
   rfl
 case l00Src =>
  match l,h with
  | [a0,a1,a2],h =>
   simp only[aR.iL,a6W,a5E] at h
   obtain⟨b0,h0,⟨b1,h1,⟨b2,h2,rfl⟩⟩⟩:=h
   have e0:=TV.bd h0;have e1:=TV.bd h1;have e2:=TV.bd h2
   subst e0 e1 e2
   rfl
 case l01Gen =>
  match l,h with
  | [a0,a1,a2,a3],h =>
   simp only[aR.iL,a6W,a5E] at h
   obtain⟨b0,h0,⟨b1,h1,⟨b2,h2,⟨b3,h3,rfl⟩⟩⟩⟩:=h
   have e0:=TV.bd h0;have e1:=TV.bd h1;have e2:=TV.bd h2;have e3:=TV.bd h3
   subst e0 e1 e2 e3
   rfl
theorem aR.jT(s:aR)(x:s.den):(s.cells x).length=s.size:=by cases s<;>rfl
theorem aR.uS(s:aR)(x:s.den):(s.cells x).map TV.τ=s.uV:=by cases s<;>rfl
theorem aR.wo(s:aR)(x:s.den):(s.fields x).map TV.τ=s.gV:=by cases s<;>rfl
def Ty.size:Ty->Nat
 | .st s=>s.size
 | _=>1
def TV.cells(v:TV):List TV :=
 match v with
 | ⟨.st s,x⟩=>s.cells x
 | v=>[v]
theorem aR.Ee(s:aR)(x:s.den):s.cells x=(s.fields x).flatMap TV.cells:=by cases s<;>rfl
def aD.aK(x:aD):D := .agg [.int .i64 x.aE, .int .i64 x.ai]
mutual
def O.aK:O->D
 | ⟨ah,bc,V⟩ => .agg [.int .i64 ah, .int .i64 bc, .slice 3 (O.YO V)]
def O.YO:List O->List D
 | []=>[]
 | e::r=>e.aK::O.YO r
end
theorem O.Il:∀ l,O.YO l=l.map O.aK
 | []=>rfl
 | _::r=>congrArg _ (O.Il r)
def o7.aK(x:o7):D := .agg [.int .i64 x.ah, .int .i64 x.bc,ZZ 3 (λ y=>O.aK y) x.V]
def bl.aK(x:bl):D := .agg [.slice 1 (x.az.map λ y => .int .i64 y), .slice 1 (x.aA.map λ y => .int .i64 y)]
def nf.aK(x:nf):D := .agg [.str x.text, .int .i64 x.U]
def na.aK(x:na):D := .agg [.slice 1 (x.J.map λ y => .int .u8 y), .int .i64 x.U, .int .u64 x.M]
def nb.aK(x:nb):D := .agg [.ptr, .int .i64 x.g.aE, .int .i64 x.g.ai, .int .i64 x.left]
def aR.aK:(s:aR)->s.den->D
 | .sig,x=>aD.aK x
 | .expr,x=>O.aK x
 | .oExpr,x=>o7.aK x
 | .word,x=>bl.aK x
 | .reader,x=>nf.aK x
 | .l00Src,x=>na.aK x
 | .l01Gen,x=>nb.aK x
def Ty.aK:(t:Ty)->t.den->D
 | .int k,n => .int k n
 | .bool,b => .bool b
 | .str,s => .str s
 | .slice t,xs => .slice t.size (xs.map t.aK)
 | .st s,x=>s.aK x
 | .mv t,o=>ZZ t.size t.aK o
 | .ptr,_ => .ptr
def TV.aK(v:TV):D:=v.τ.aK v.x
theorem aR.cr(s:aR)(x:s.den):s.aK x = .agg ((s.cells x).map TV.aK):=by
 cases s<;>first
  | rfl
  | (cases x;simp[aR.aK,O.aK,aR.cells,TV.aK,Ty.aK,Ty.size,aR.size,O.Il];done)
  | (simp[aR.aK,aR.cells,TV.aK,Ty.aK,Ty.size,aR.size,aD.aK,O.aK,o7.aK,bl.aK,nf.aK,na.aK,nb.aK,O.Il];done)
def aR.zero:(s:aR)->s.den
 | .sig=>(aD.mk 0 0)
 | .expr=>(O.mk 0 0 [])
 | .oExpr=>(o7.mk 0 0 none)
 | .word=>(bl.mk [] [])
 | .reader=>(nf.mk [] 0)
 | .l00Src=>(na.mk [] 0 0)
 | .l01Gen=>(nb.mk () (aD.mk 0 0) 0)
def Ty.zero:(t:Ty)->t.den
 | .int _=>(0:Int)
 | .bool=>false
 | .str=>([]:List UInt8)
 | .slice _=>[]
 | .st s=>s.zero
 | .mv _=>none
 | .ptr=>()
instance:Inhabited aD:=⟨aR.zero .sig⟩
theorem aD.eta(x:aD):aD.mk x.aE x.ai=x:=by cases x;rfl
instance:Inhabited O:=⟨aR.zero .expr⟩
theorem O.eta(x:O):O.mk x.ah x.bc x.V=x:=by cases x;rfl
instance:Inhabited o7:=⟨aR.zero .oExpr⟩
theorem o7.eta(x:o7):o7.mk x.ah x.bc x.V=x:=by cases x;rfl
instance:Inhabited bl:=⟨aR.zero .word⟩
theorem bl.eta(x:bl):bl.mk x.az x.aA=x:=by cases x;rfl
instance:Inhabited nf:=⟨aR.zero .reader⟩
theorem nf.eta(x:nf):nf.mk x.text x.U=x:=by cases x;rfl
instance:Inhabited na:=⟨aR.zero .l00Src⟩
theorem na.eta(x:na):na.mk x.J x.U x.M=x:=by cases x;rfl
instance:Inhabited nb:=⟨aR.zero .l01Gen⟩
theorem nb.eta(x:nb):nb.mk x.s x.g x.left=x:=by cases x;rfl
def aC(x:O):O:=O.mk x.ah x.bc x.V
theorem bE(x:O):aC x=x:=by cases x;simp[aC]
theorem aR.TA:∀ (s:aR) (fl:List TV),fl.map TV.τ=s.gV->∃ x,s.fields x=fl
 | .sig,fl,h=>by
  match fl,h with
  | [⟨t0,a0⟩,⟨t1,a1⟩],h =>
   simp only[a6n,a7C,aR.gV,a5L,a5R] at h
   obtain⟨rfl,rfl⟩:=h
   exact⟨⟨a0,a1⟩,rfl⟩
 | .expr,fl,h=>by
  match fl,h with
  | [⟨t0,a0⟩,⟨t1,a1⟩,⟨t2,a2⟩],h =>
   simp only[a6n,a7C,aR.gV,a5L,a5R] at h
   obtain⟨rfl,rfl,rfl⟩:=h
   exact⟨⟨a0,a1,a2⟩,rfl⟩
 | .oExpr,fl,h=>by
  match fl,h with
  | [⟨t0,a0⟩,⟨t1,a1⟩,⟨t2,a2⟩],h =>
   simp only[a6n,a7C,aR.gV,a5L,a5R] at h
   obtain⟨rfl,rfl,rfl⟩:=h
   exact⟨⟨a0,a1,a2⟩,rfl⟩
 | .word,fl,h=>by
  match fl,h with
  | [⟨t0,a0⟩,⟨t1,a1⟩],h =>
   simp only[a6n,a7C,aR.gV,a5L,a5R] at h
   obtain⟨rfl,rfl⟩:=h
   exact⟨⟨a0,a1⟩,rfl⟩
 | .reader,fl,h=>by
  match fl,h with
  | [⟨t0,a0⟩,⟨t1,a1⟩],h =>
   simp only[a6n,a7C,aR.gV,a5L,a5R] at h
   obtain⟨rfl,rfl⟩:=h
   exact⟨⟨a0,a1⟩,rfl⟩
 | .l00Src,fl,h=>by
  match fl,h with
  | [⟨t0,a0⟩,⟨t1,a1⟩,⟨t2,a2⟩],h =>
   simp only[a6n,a7C,aR.gV,a5L,a5R] at h
   obtain⟨rfl,rfl,rfl⟩:=h
   exact⟨⟨a0,a1,a2⟩,rfl⟩
 | .l01Gen,fl,h=>by
  match fl,h with
  | [⟨t0,a0⟩,⟨t1,a1⟩,⟨t2,a2⟩],h =>
   simp only[a6n,a7C,aR.gV,a5L,a5R] at h
   obtain⟨rfl,rfl,rfl⟩:=h
   exact⟨⟨a0,a1,a2⟩,rfl⟩
abbrev zE:O:=O.mk (0:Int) (0:Int) []
end Go.Proofs.YtnehkikdlnmebaaGreatDoor

namespace Go.Proofs.YtnehkikdlnmebaaGreatDoor
noncomputable section
@[reducible] def FN:List Ty->Ty->Type
 | [],r=>Prop×r.den
 | t::ts,r=>t.den->FN ts r
structure FV where
 ps:List Ty
 r:Ty
 F:FN ps r
def FV.Z9(ps:List Ty)(r:Ty)(v:FV):Option (FN ps r):=if h:v.ps=ps then (if k:v.r=r then some (h ▸ k ▸ v.F) else none) else none
theorem FV.bd{ps:List Ty}{r:Ty}{v:FV}{F:FN ps r}(h:v.Z9 ps r=some F):v=⟨ps,r,F⟩:=by
 unfold FV.Z9 at h
 split at h
 .split at h
  .rename_i e k
   obtain⟨ps',r',F'⟩:=v
   simp only at e k
   subst e k
   simp at h
   subst h
   rfl
  .cases h
 .cases h
@[simp] theorem FV.Tk(ps:List Ty)(r:Ty)(F:FN ps r):FV.Z9 ps r ⟨ps,r,F⟩=some F:=by simp[FV.Z9]
structure MV where
 κ:Ty
 ε:Ty
 f:κ.den->Option ε.den
 n:Nat
def MV.Z9(κ ε:Ty)(m:MV):Option ((κ.den->Option ε.den)×Nat):=if h:m.κ=κ then (if k:m.ε=ε then some (h ▸ k ▸ (m.f,m.n)) else none) else none
theorem MV.bd{κ ε:Ty}{m:MV}{F:(κ.den->Option ε.den)×Nat}(h:m.Z9 κ ε=some F):m=⟨κ,ε,F.1,F.2⟩:=by
 unfold MV.Z9 at h
 split at h
 .split at h
  .rename_i e k
   obtain⟨κ',ε',f',n'⟩:=m
   simp only at e k
   subst e k
   simp at h
   subst h
   rfl
  .cases h
 .cases h
@[simp] theorem MV.Tk(κ ε:Ty)(f:κ.den->Option ε.den)(n:Nat):MV.Z9 κ ε ⟨κ,ε,f,n⟩=some (f,n):=by simp[MV.Z9]
def EB{α β:Type}(f:α->Option β)(k:α)(v:β):α->Option β:=λ x => @ite _ (x=k) (Classical.propDecidable _) (some v) (f x)
def KF{β:Type}(o:Option β)(n:Nat):Nat:=bif o.isSome then n else n+1
inductive AV where
 | any
 | eC
 | aS (v:TV)
 | nil
 | fX (v:TV)
 | ptr (id off:Nat)
 | row (id:Nat)
 | ei (id i off:Nat)
 | agg (cs:List AV)
 | j8 (vs:List AV)
 | fn (f:FuncId)
 | aB (id:Nat)
 | sub (id i off sz:Nat)
 | eH (id i off sz:Nat)
 | di (f:FuncId) (cs:List AV)
 | jE (v:FV)
 | mp (id:Nat)
inductive av where
 | box (cs:List AV)
 | row (e:TypeId) (τ:Ty) (xs:List τ.den)
 | aB (τ:Ty) (xs:List τ.den)
 | map (m:MV)
structure af where
 aw:List AV
 aH:List (Nat×av)
inductive Arg where
 | val (v:TV)
 | ref (v:TV)
 | fn (f:FuncId)
 | di (v:FV)
 | own (v:TV)
 | box (k:Nat)
inductive CK where
 | d (τ:Ty)
 | o (τ:Ty)
 | p (k:Nat)
structure SK where
 ps:List (Option Nat)
 sh:List (List CK)
def ae{α:Type}:List (Nat×α)->Nat->Option α
 | [],_=>none
 | (k,v)::r,n=>match Nat.beq k n with
  | true=>some v
  | false=>ae r n
abbrev Vc:=Option Prop
def Vc.ok:Vc->Prop
 | .none=>True
 | .some p=>p
def Vc.and(v:Vc)(K:Prop):Prop:=match v with
 | .none=>K
 | .some p=>p/\K
theorem Vc.lN{v:Vc}{K:Prop}(h:v.and K):v.ok/\K:=by
 cases v with
 | none=>exact⟨trivial,h⟩
 | some p=>exact h
structure OJ where
 τ:Ty
 g:τ.den->Int->Vc×τ.den×Int
structure D4 where
 ps:List Ty
 r:Ty
 gK:List (Bool×Ty)
def Arg.F8:Arg->Bool
 | .ref _ | .di _ | .box _=>false
 | _=>true
inductive Rj where
 | box (cells:List TV)
 | row (e:TypeId) (τ:Ty) (xs:List τ.den)
structure Env where
 ty:List (Nat×Ty×Nat×Nat)
 Ut:List (Nat×Ty)
 IV:Nat->List Arg->Option (Vc×List TV)
 wr:List Nat:=[]
 own:List Nat:=[]
 HI:Nat->List Arg->Option (Vc×List TV):=λ _ _=>none
 mark:Nat->Option OJ:=λ _=>none
 di:Nat->Option D4:=λ _=>none
 ro:List Nat:=[]
 tk:Nat->List Bool:=λ _=>[]
 sk:Nat->Option SK:=λ _=>none
 Pr:Nat->List Arg->List (List TV)->Option (Vc×List TV×List (List TV)):=λ _ _ _=>none
 Sz:List (Nat×Ty×Ty):=[]
 Nw:Nat->List Arg->Option (Vc×Rj):=λ _ _=>none
def af.ae(s:af)(id:Nat):Option av:=YtnehkikdlnmebaaGreatDoor.ae s.aH id
def Mq(k:IntKind)(n:Int):Bool :=
 match n with
 | .ofNat m=>match k with
  | .i64=>Nat.ble m 9223372036854775807
  | .u64=>Nat.ble m 18446744073709551615
  | .u8=>Nat.ble m 255
  | _=>Nat.ble m 127
 | .negSucc m=>match k with
  | .i64=>Nat.ble m 9223372036854775807
  | _=>false
def GN:Value->AV
 | .int k n=>match Mq k n with
  | true => .aS ⟨.int k,n⟩
  | false => .any
 | .bool b => .aS ⟨.bool,b⟩
 | .string s=>match Nat.ble s.data.size 1000000 with
  | true => .aS ⟨.str,s.data.toList⟩
  | false => .any
 | .slice none 0 0 => .nil
 | _ => .any
def Ry:Value->AV
 | .agg cs => .agg (cs.toList.map GN)
 | v=>GN v
def af.eval(s:af):Operand->AV
 | .tmp t=>s.aw.getD t .any
 | .const v=>Ry v
 | .func f => .fn f
 | .global _ => .any
def lF(lk:Nat->Option av)(τ:Ty):AV->Option τ.den
 | .aS v=>v.Z9 τ
 | .nil=>match τ with
  | .slice _=>some []
  | _=>none
 | .row id=>match lk id with
  | some (.row _ aZ xs)=>TV.Z9 τ ⟨.slice aZ,xs⟩
  | _=>none
 | .aB id=>match lk id with
  | some (.aB aZ xs)=>TV.Z9 τ ⟨.slice aZ,xs⟩
  | _=>none
 | _=>none
def HH(lk:Nat->Option av)(id:Nat):Option av:=match lk id with
 | some (.aB _ _)=>none
 | o=>o
def Mb(lk:Nat->Option av):List AV->List Ty->Option (List TV)
 | [],[]=>some []
 | c::cs,t::ts=>match lF lk t c with
  | some x=>match Mb lk cs ts with
   | some r=>some (⟨t,x⟩::r)
   | none=>none
  | none=>none
 | _,_=>none
def AU(lk:Nat->Option av)(τ:Ty):AV->Option τ.den
 | .agg cs=>match τ with
  | .st s=>match Mb lk cs s.uV with
   | some l=>s.iL l
   | none=>none
  | _=>none
 | v=>lF lk τ v
def AV.cell:AV->Bool
 | .any | .eC | .agg _ | .j8 _ | .sub .. | .eH .. | .di .. | .jE .. => false
 | .aS v=>match v.τ with
  | .st _=>false
  | _=>true
 | _=>true
def cellsOf(τ:Ty)(v:AV):Option (List AV) :=
 match τ with
 | .st s=>match v with
  | .aS x=>match x.Z9 (.st s) with
   | some y=>some ((s.cells y).map .aS)
   | none=>none
  | .agg cs=>match Nat.beq cs.length s.size&&cs.all AV.cell with
   | true=>some cs
   | false=>none
  | _=>none
 | _=>match v.cell with
  | true=>some [v]
  | false=>none
def C4(cs:List AV)(off:Nat)(τ:Ty):Option AV :=
 match τ with
 | .st s=>match Nat.ble (off+s.size) cs.length with
  | true=>some (.agg ((cs.drop off).take s.size))
  | false=>none
 | _=>cs[off]?
def putCells(cs:List AV)(off:Nat)(new:List AV):Option (List AV) :=
 match Nat.ble (off+new.length) cs.length with
 | true=>some (cs.take off++(new++cs.drop (off+new.length)))
 | false=>none
def TV.part(v:TV)(off:Nat)(τ:Ty):Option TV :=
 match Nat.beq off 0&&decide (v.τ=τ) with
 | true=>some v
 | false=>match v.cells[off]? with
  | some u=>match decide (u.τ=τ) with
   | true=>some u
   | false=>none
  | none=>none
def sG(lk:Nat->Option av)(τ:Ty):AV->Option AV
 | .fX v=>match decide (v.τ=τ) with
  | true=>some (.aS v)
  | false=>none
 | .ptr id off=>match lk id with
  | some (.box cs)=>C4 cs off τ
  | _=>none
 | .ei id i off=>match lk id with
  | some (.row _ aZ xs)=>match TV.part ⟨aZ,xs.getD i aZ.zero⟩ off τ with
   | some u=>some (.aS u)
   | none=>none
  | _=>none
 | _=>none
def deref(lk:Nat->Option av)(τ:Ty)(v:AV):Option τ.den :=
 match sG lk τ v with
 | some u=>AU lk τ u
 | none=>none
def aR.fH(s:aR)(i:Nat):Nat:=((s.gV.take i).map Ty.size).sum
def zeroCell(τ:Ty):AV :=
 match τ with
 | .slice _ => .nil
 | τ => .aS ⟨τ,τ.zero⟩
def zeroCells(τ:Ty):List AV :=
 match τ with
 | .st s=>s.uV.map zeroCell
 | τ=>[zeroCell τ]
def zm(lk:Nat->Option av):List (Bool×Ty)->List AV->Option (List Arg)
 | [],[]=>some []
 | (true,τ)::ks,v::vs=>match deref lk τ v with
  | some x=>match zm lk ks vs with
   | some r=>some (.ref ⟨τ,x⟩::r)
   | none=>none
  | none=>none
 | (false,τ)::ks,v::vs=>match AU lk τ v with
  | some x=>match zm lk ks vs with
   | some r=>some (.val ⟨τ,x⟩::r)
   | none=>none
  | none=>none
 | _,_=>none
def Mn(E:Env)(f:FuncId)(gK:List Arg):(ps:List Ty)->(r:Ty)->List Arg->FN ps r
 | [],r,acc=>match E.IV f (acc++gK) with
  | some (pre,[v])=>match v.Z9 r with
   | some y=>(pre.ok,y)
   | none=>(False,r.zero)
  | _=>(False,r.zero)
 | t::ts,r,acc=>λ x=>Mn E f gK ts r (acc++[.val ⟨t,x⟩])
def tG:(ps:List Ty)->(r:Ty)->FN ps r->List Arg->Option (Prop×r.den)
 | [],_,F,[]=>some F
 | t::ts,r,F, .val a::zs=>match a.Z9 t with
  | some x=>tG ts r (F x) zs
  | none=>none
 | _,_,_,_=>none
def GP(E:Env)(lk:Nat->Option av):AV->Option FV
 | .di f cs=>match E.di f with
  | some k=>match zm lk k.gK cs with
   | some Z9=>some ⟨k.ps,k.r,Mn E f Z9 k.ps k.r []⟩
   | none=>none
  | none=>none
 | .jE v=>some v
 | .fn f=>match E.di f with
  | some k=>match k.gK with
   | []=>some ⟨k.ps,k.r,Mn E f [] k.ps k.r []⟩
   | _=>none
  | none=>none
 | _=>none
def L9(E:Env)(lk:Nat->Option av)(T:TypeId)(v:AV):Option Arg :=
 match ae E.ty T with
 | some (τ,_)=>match AU lk τ v with
  | some x=>some (.val ⟨τ,x⟩)
  | none=>none
 | none=>match ae E.Ut T with
  | some τ=>match deref lk τ v with
   | some x=>some (.ref ⟨τ,x⟩)
   | none=>none
  | none=>match GP E lk v with
   | some q=>some (.di q)
   | none=>match v with
    | .fn f=>some (.fn f)
    | _=>none
def nQ(E:Env)(lk:Nat->Option av):List TypeId->List AV->Option (List Arg)
 | [],[]=>some []
 | T::Ts,v::vs=>match L9 E lk T v with
  | some x=>match nQ E lk Ts vs with
   | some r=>some (x::r)
   | none=>none
  | none=>none
 | _,_=>none
def zS:List TV->AV
 | [v] => .aS v
 | vs => .j8 (vs.map .aS)
def ag(n:Int):Prop := -9223372036854775808<=n/\n<=9223372036854775807
def cq(k:IntKind)(n:Int):Prop :=
 match k with
 | .i64=>ag n
 | k=>k.min<=n/\n<=k.max
def aV(n:Int)(len:Nat):Prop:=0<=n/\n<(len:Int)
def iW(l h:Int)(len:Nat):Prop:=0<=l/\l<=h/\h<=(len:Int)
def jQ(n m:Int)(b:Nat):Prop:=0<=n/\n<=m/\m * ((b:Int)+1)<=140737488355328
def cE(n b:Nat):Prop:=n * (b+1)<=140737488355328
def arith(op:BinOp)(k:IntKind)(a b:Int):Option (Vc×Int) :=
 match op with
 | .add=>match k with
  | .u64=>some (.none,IntKind.u64.wrap (a+b))
  | k=>some (.some (cq k (a+b)),a+b)
 | .sub=>some (.some (cq k (a - b)),a - b)
 | .mul=>match k with
  | .u64=>some (.none,IntKind.u64.wrap (a * b))
  | k=>some (.some (cq k (a * b)),a * b)
 | .quo=>some (.some (b≠0/\cq k (a.tdiv b)),a.tdiv b)
 | .rem=>some (.some (b≠0/\cq k (a.tmod b)),a.tmod b)
 | .shl=>some (.some (0<=b/\b<k.bits/\cq k (a * 2 ^ b.toNat)),a * 2 ^ b.toNat)
 | .shr=>some (.some (0<=b/\b<k.bits/\cq k (a.fdiv (2 ^ b.toNat))),a.fdiv (2 ^ b.toNat))
 | .and=>some (.some (0<=a/\0<=b/\cq k a/\cq k b),((a.toNat &&& b.toNat:Nat):Int))
 | _=>none
def cmp(op:BinOp)(a b:Int):Option Bool :=
 match op with
 | .eql=>some (decide (a=b))
 | .neq=>some (!decide (a=b))
 | .lss=>some (decide (a<b))
 | .leq=>some (decide (a<=b))
 | .gtr=>some (decide (b<a))
 | .geq=>some (decide (b<=a))
 | _=>none
def PO(wr:Bool)(op:BinOp)(k:IntKind)(a b:Int):Option (Vc×Int) :=
 match wr with
 | true=>match op with
  | .add=>some (.none,k.wrap (a+b))
  | .sub=>some (.none,k.wrap (a - b))
  | .mul=>some (.none,k.wrap (a * b))
  | op=>arith op k a b
 | false=>arith op k a b
def Tn(tb wr:Bool)(op:BinOp)(u v:AV):Option (Vc×AV) :=
 match u,v with
 | .aS ⟨.int k,a⟩, .aS ⟨.int k',b⟩=>match PO wr op k a b with
  | some (p,r)=>match op with
   | .shl | .shr=>some (p, .aS ⟨.int k,r⟩)
   | _=>match decide (k=k') with
    | true=>some (p, .aS ⟨.int k,r⟩)
    | false=>none
  | none=>match decide (k=k') with
   | true=>match cmp op a b with
    | some c=>some (.none, .aS ⟨.bool,c⟩)
    | none=>none
   | false=>none
 | .aS ⟨.bool,a⟩, .aS ⟨.bool,b⟩=>match tb with
  | true=>match op with
   | .eql=>some (.none, .aS ⟨.bool,a == b⟩)
   | .neq=>some (.none, .aS ⟨.bool,!(a == b)⟩)
   | _=>none
  | false=>none
 | .aS ⟨.str,a⟩, .aS ⟨.str,b⟩=>match op with
  | .eql=>some (.none, .aS ⟨.bool,decide (a=b)⟩)
  | .neq=>some (.none, .aS ⟨.bool,!decide (a=b)⟩)
  | .add=>some (.some (a.length+b.length<=140737488355328), .aS ⟨.str,a++b⟩)
  | _=>none
 | _,_=>none
def partsOf(E:Env)(s:aR)(cs:List AV):List (Nat×AV)->Option (List AV)
 | []=>some cs
 | (i,v)::r=>match s.gV[i]? with
  | some τ=>match cellsOf τ v with
   | some new=>match putCells cs (s.fH i) new with
    | some dJ=>partsOf E s dJ r
    | none=>none
   | none=>none
  | none=>none
def sR(τ:Ty):Nat->List (Nat×AV)->Option (List τ.den)
 | _,[]=>some []
 | n,(
    i,v)::r=>match Nat.beq i n with
  | true=>match AU (λ _=>none) τ v with
   | some x=>match sR τ (n+1) r with
    | some xs=>some (x::xs)
    | none=>none
   | none=>none
  | false=>none
def TV.flat(v:TV):Bool:=v.cells.all λ u=>match u.τ with
 | .slice _=>false
 | .mv _=>false
 | _=>true
def qw(d:Int):Option AV->Option Int
 | none=>some d
 | some (.aS ⟨.int _,n⟩)=>some n
 | _=>none
def sH(lk:Nat->Option av)(id:Nat):Option av:=match lk id with
 | some (.box cs)=>some (.box cs)
 | _=>none
def CZ(E:Env)(lk:Nat->Option av)(f:FuncId)(Ts:List TypeId)(vs:List AV):Option (Vc×AV×Option av) :=
 match nQ E (sH lk) Ts vs with
 | some Z9=>match E.IV f Z9 with
  | some (pre,res)=>some (pre,zS res,none)
  | none=>none
 | none=>match nQ E lk Ts vs with
  | some Z9=>match E.IV f Z9 with
   | some (pre,res)=>match res.all TV.flat with
    | true=>some (pre,zS res,none)
    | false=>none
   | none=>none
  | none=>none
def xW(E:Env)(lk:Nat->Option av)(g:AV)(Ts:List TypeId)(vs:List AV):Option (Vc×AV×Option av) :=
 match (match nQ E (sH lk) Ts vs with
  | some Z9=>match GP E (sH lk) g with
   | some q=>match tG q.ps q.r q.F Z9 with
    | some (pre,y)=>some (some pre,zS [⟨q.r,y⟩],none)
    | none=>none
   | none=>none
  | none=>none) with
 | some r=>some r
 | none=>match nQ E lk Ts vs with
  | some Z9=>match GP E lk g with
   | some q=>match tG q.ps q.r q.F Z9 with
    | some (pre,y)=>match TV.flat ⟨q.r,y⟩ with
     | true=>some (some pre,zS [⟨q.r,y⟩],none)
     | false=>none
    | none=>none
   | none=>none
  | none=>none
def AV.WW:AV->Bool
 | .eC | .j8 _ | .di .. | .jE .. | .sub .. | .eH .. => false
 | _=>true
def F0(E:Env)(lk:Nat->Option av)(ev:Operand->AV)(o:Oper):Option (Vc×AV×Option av) :=
 match o.op with
 | .move x=>some (.none,ev x,none)
 | .assign x=>some (.none,ev x,none)
 | .pick c a b=>match ev c with
  | .aS ⟨.bool,true⟩=>some (.none,ev a,none)
  | .aS ⟨.bool,false⟩=>some (.none,ev b,none)
  | _=>none
 | .alloc T=>match o.dst,ae E.ty T with
  | some d,some (τ,_)=>some (.none, .ptr d 0,some (.box (zeroCells τ)))
  | _,_=>none
 | .box T x=>match o.dst,ae E.ty T with
  | some d,some (τ,_)=>match E.ro.contains d with
   | true=>match AU (λ _=>none) τ (ev x) with
    | some y=>some (.none, .fX ⟨τ,y⟩,none)
    | none=>none
   | false=>match cellsOf τ (ev x) with
    | some cs=>some (.none, .ptr d 0,some (.box cs))
    | none=>none
  | _,_=>none
 | .build T parts=>match ae E.ty T with
  | some (.st n,_)=>match partsOf E n (zeroCells (.st n)) (parts.toList.map λ p=>(p.1,ev p.2)) with
   | some cs=>some (.none, .agg cs,none)
   | none=>none
  | _=>none
 | .buildSlice T len parts=>match o.dst,ae E.ty T with
  | some d,some (.slice τ,_,e)=>match Nat.beq parts.size len&&Nat.ble len 1000 with
   | true=>match sR τ 0 (parts.toList.map λ p=>(p.1,ev p.2)) with
    | some xs=>match E.ro.contains d with
     | true=>some (.none, .aS ⟨.slice τ,xs⟩,none)
     | false=>some (.none, .row d,some (.row e τ xs))
    | none=>none
   | false=>none
  | _,_=>none
 | .load T a=>match ae E.ty T with
  | some (τ,_)=>match sG lk τ (ev a) with
   | some v=>some (.none,v,none)
   | none=>none
  | none=>none
 | .nilCheck x=>match ev x with
  | .fX v=>some (.none, .fX v,none)
  | .ptr id off=>some (.none, .ptr id off,none)
  | .ei id i off=>some (.none, .ei id i off,none)
  | _=>none
 | .fieldAddr T x i=>match ae E.ty T with
  | some (.st n,_)=>match ev x with
   | .fX v=>match v.Z9 (.st n) with
    | some y=>match (n.fields y)[i]? with
     | some f=>some (.none, .fX f,none)
     | none=>none
    | none=>none
   | .ptr id off=>match Nat.blt i n.gV.length with
    | true=>some (.none, .ptr id (off+n.fH i),none)
    | false=>none
   | .ei id k off=>match Nat.blt i n.gV.length with
    | true=>some (.none, .ei id k (off+n.fH i),none)
    | false=>none
   | _=>none
  | _=>none
 | .field T x i=>match ae E.ty T with
  | some (.st n,_)=>match ev x with
   | .aS v=>match v.Z9 (.st n) with
    | some y=>match (n.fields y)[i]? with
     | some f=>some (.none, .aS f,none)
     | none=>none
    | none=>none
   | .agg cs=>match n.gV[i]? with
    | some τ=>match C4 cs (n.fH i) τ with
     | some v=>some (.none,v,none)
     | none=>none
    | none=>none
   | _=>none
  | _=>none
 | .indexAddr T x ix=>match ae E.ty T with
  | some (
      .slice τ,_)=>match ev ix with
   | .aS ⟨.int _,n⟩=>match ev x with
    | .aS v=>match v.Z9 (.slice τ) with
     | some xs=>some (.some (aV n xs.length), .fX ⟨τ,xs.getD n.toNat τ.zero⟩,none)
     | none=>none
    | .row id=>match lk id with
     | some (.row _ aZ xs)=>match decide (aZ=τ) with
      | true=>some (.some (aV n xs.length), .ei id n.toNat 0,none)
      | false=>none
     | _=>none
    | _=>none
   | _=>none
  | _=>none
 | .index T x ix=>match ae E.ty T with
  | some (.str,_)=>match ev ix with
   | .aS ⟨.int _,n⟩=>match ev x with
    | .aS ⟨.str,xs⟩=>some (.some (aV n xs.length), .aS ⟨.int .u8,((xs.getD n.toNat 0).toNat:Int)⟩,none)
    | _=>none
   | _=>none
  | _=>none
 | .binOp op T x y _=>match Tn (match ae E.ty T with
   | some (.bool,_)=>true
   | _=>false) (match o.dst with
   | some d=>E.wr.contains d
   | none=>false) op (ev x) (ev y) with
  | some (p,v)=>some (p,v,none)
  | none=>none
 | .unOp op _ x=>match op,ev x with
  | .not, .aS ⟨.bool,b⟩=>some (.none, .aS ⟨.bool,!b⟩,none)
  | .neg, .aS ⟨.int k,n⟩=>some (.some (cq k (-n)), .aS ⟨.int k,-n⟩,none)
  | _,_=>none
 | .convert src dst x=>match ae E.ty src,ae E.ty dst with
  | some (.int _,_),some (.int k,_)=>match ev x with
   | .aS ⟨.int _,n⟩=>some (.some (cq k n), .aS ⟨.int k,n⟩,none)
   | _=>none
  | _,_=>none
 | .slice T x lo hi mx=>match ae E.ty T,mx with
  | some (.slice τ,_),none=>match ev x with
   | .aS v=>match v.Z9 (.slice τ) with
    | some xs=>match qw 0 (lo.map ev),qw (xs.length:Int) (hi.map ev) with
     | some l,some h=>some (.some (iW l h xs.length), .aS ⟨.slice τ,(xs.take h.toNat).drop l.toNat⟩,none)
     | _,_=>none
    | none=>none
   | _=>none
  | some (.str,_),none=>match ev x with
   | .aS ⟨.str,xs⟩=>match qw 0 (lo.map ev),qw (xs.length:Int) (hi.map ev) with
    | some l,some h=>some (.some (iW l h xs.length), .aS ⟨.str,(xs.take h.toNat).drop l.toNat⟩,none)
    | _,_=>none
   | _=>none
  | _,_=>none
 | .extract t i=>match ev t with
  | .j8 vs=>match vs[i]? with
   | some v=>some (.none,v,none)
   | none=>none
  | _=>none
 | .makeSlice T l c=>match o.dst,ae E.ty T with
  | some d,some (.slice τ,b,e)=>match ev l,ev c with
   | .aS ⟨.int .i64,n⟩, .aS ⟨.int .i64,m⟩=>some (.some (jQ n m b), .row d,some (.row e τ (List.replicate n.toNat τ.zero)))
   | _,_=>none
  | _,_=>none
 | .call c=>match c.callee with
  | .builtin .len=>match c.argTypes.toList,c.args.toList.map ev with
   | [T],[v]=>match ae E.ty T with
    | some (.slice _,_)=>match v with
     | .nil=>some (.none, .aS ⟨.int .i64,(0:Int)⟩,none)
     | .aS ⟨.slice _,xs⟩=>some (.none, .aS ⟨.int .i64,(xs.length:Int)⟩,none)
     | .row id=>match lk id with
      | some (.row _ _ xs)=>some (.none, .aS ⟨.int .i64,(xs.length:Int)⟩,none)
      | _=>none
     | _=>none
    | some (.str,_)=>match v with
     | .aS ⟨.str,xs⟩=>some (.none, .aS ⟨.int .i64,(xs.length:Int)⟩,none)
     | _=>none
    | none=>match v,ae E.Sz T with
     | .mp _,some _=>none
     | _,_=>none
    | _=>none
   | _,_=>none
  | .builtin .append=>match o.dst,c.argTypes.toList with
   | some d,[T,T']=>match Nat.beq T T',ae E.ty T with
    | true,some (.slice τ,b,e)=>match c.args.toList.map ev with
     | [.nil,y]=>match lF (HH lk) (.slice τ) y with
      | some ys=>some (.some (cE ys.length b), .row d,some (.row e τ ys))
      | none=>none
     | _=>none
    | _,_=>none
   | _,_=>none
  | .value (.func f)=>CZ E lk f c.argTypes.toList (c.args.toList.map ev)
  | .value (.tmp t)=>match ev (.tmp t) with
   | .fn f=>CZ E lk f c.argTypes.toList (c.args.toList.map ev)
   | .di f cs=>xW E lk (.di f cs) c.argTypes.toList (c.args.toList.map ev)
   | .jE v=>xW E lk (.jE v) c.argTypes.toList (c.args.toList.map ev)
   | _=>none
  | _=>none
 | .makeMap _ none=>none
 | .lookup _ _ _ _=>none
 | .makeFunc fn first captured=>match fn,first.toList,(captured.toList.map ev).all AV.WW with
  | .func f,[],true=>match captured.toList.map ev with
   | []=>some (.none, .fn f,none)
   | cs=>some (.none, .di f cs,none)
  | _,_,_=>none
 | _=>none
mutual
def AV.refs(id:Nat):AV->Bool
 | .ptr i _=>Nat.beq i id
 | .row i=>Nat.beq i id
 | .ei i _ _=>Nat.beq i id
 | .aB i=>Nat.beq i id
 | .sub i _ _ _=>Nat.beq i id
 | .eH i _ _ _=>Nat.beq i id
 | .mp i=>Nat.beq i id
 | .agg cs=>AV.gI id cs
 | .j8 cs=>AV.gI id cs
 | .di _ cs=>AV.gI id cs
 | _=>false
def AV.gI(id:Nat):List AV->Bool
 | []=>false
 | v::r=>match AV.refs id v with
  | true=>true
  | false=>AV.gI id r
end
def AV.kill(id:Nat)(v:AV):AV:=match v.refs id with
 | true => .any
 | false=>v
def av.kill(id:Nat):av->av
 | .box cs => .box (cs.map (AV.kill id))
 | o=>o
def af.bW(s:af)(id:Nat):af :=
 { aw:=s.aw.map (AV.kill id),aH:=s.aH.map λ p=>(p.1,p.2.kill id) }
def bK(id:Nat):List (Nat×av)->List (Nat×av)
 | []=>[]
 | (k,o)::r=>match Nat.beq k id with
  | true=>bK id r
  | false=>(k,o)::bK id r
def af.put(s:af)(d:Option Nat)(v:AV):af :=
 match d with
 | some d=>{ s with aw:=s.aw.set d v }
 | none=>s
def af.lay(s:af)(d:Option Nat)(v:AV)(o:Option av):af :=
 match o,d with
 | some o,some d =>
  let s':=s.bW d
  { aw:=s'.aw.set d v,aH:=(d,o.kill d)::bK d s'.aH }
 | _,d=>s.put d v
mutual
def AV.rows:AV->List Nat
 | .row i=>[i]
 | .agg cs=>AV.Uv cs
 | _=>[]
def AV.Uv:List AV->List Nat
 | []=>[]
 | v::r=>AV.rows v++AV.Uv r
end
def OS(s:af)(v:AV):List Nat :=
 match v with
 | .ptr id _=>match s.ae id with
  | some (.box cs)=>AV.Uv cs
  | _=>[]
 | v=>v.rows
def WO(s:af)(v:AV):List Nat :=
 match v with
 | .di _ cs=>cs.flatMap (OS s)
 | v=>OS s v
def mA(E:Env)(s:af)(o:Oper):List Nat :=
 match (match o.dst with
  | some d=>E.own.contains d
  | none=>false) with
 | true=>[]
 | false=>match o.op with
 | .buildSlice _ _ parts=>parts.toList.flatMap λ p=>(s.eval p.2).rows
 | .slice _ x _ _ _=>(s.eval x).rows
 | .store _ a x=>match s.eval a with
  | .ei _ _ _=>(s.eval x).rows
  | _=>[]
 | .call c=>match c.callee with
  | .value _=>match E.IV (match c.callee with
    | .value (.func f)=>f
    | .value (.tmp t)=>match s.eval (.tmp t) with
     | .fn f=>f
     | _=>0
    | _=>0) (match nQ E s.ae c.argTypes.toList (c.args.toList.map s.eval) with
     | some Z9=>Z9
     | none=>[]) with
   | some (_,res)=>match res.all TV.flat with
    | true=>[]
    | false=>c.args.toList.flatMap λ x=>WO s (s.eval x)
   | none=>[]
  | _=>[]
 | _=>[]
mutual
def AV.DE(id:Nat)(u:AV):AV->AV
 | .row i=>match Nat.beq i id with
  | true=>u
  | false => .row i
 | .ei i k off=>match Nat.beq i id with
  | true => .any
  | false => .ei i k off
 | .agg cs => .agg (AV.MM id u cs)
 | .j8 cs => .j8 (AV.MM id u cs)
 | .di f cs => .di f (AV.MM id u cs)
 | v=>v
def AV.MM(id:Nat)(u:AV):List AV->List AV
 | []=>[]
 | v::r=>AV.DE id u v::AV.MM id u r
end
def av.DE(id:Nat)(u:AV):av->av
 | .box cs => .box (AV.MM id u cs)
 | o=>o
mutual
def AV.A2(id:Nat)(u:AV):AV->AV
 | .aB i=>match Nat.beq i id with
  | true=>u
  | false => .aB i
 | .sub i k off z=>match Nat.beq i id with
  | true => .any
  | false => .sub i k off z
 | .eH i k off z=>match Nat.beq i id with
  | true => .any
  | false => .eH i k off z
 | .agg cs => .agg (AV.ML id u cs)
 | .j8 cs => .j8 (AV.ML id u cs)
 | .di f cs => .di f (AV.ML id u cs)
 | v=>v
def AV.ML(id:Nat)(u:AV):List AV->List AV
 | []=>[]
 | v::r=>AV.A2 id u v::AV.ML id u r
end
def av.A2(id:Nat)(u:AV):av->av
 | .box cs => .box (AV.ML id u cs)
 | o=>o
def af.freeze(s:af)(id:Nat):af :=
 match s.ae id with
 | some (.row _ τ xs) =>
  { aw:=AV.MM id (.aS ⟨.slice τ,xs⟩) s.aw,aH:=(bK id s.aH).map λ p=>(p.1,p.2.DE id (.aS ⟨.slice τ,xs⟩)) }
 | some (.aB τ xs) =>
  { aw:=AV.ML id (.aS ⟨.slice τ,xs⟩) s.aw,aH:=(bK id s.aH).map λ p=>(p.1,p.2.A2 id (.aS ⟨.slice τ,xs⟩)) }
 | _=>s
def LN(_:Env)(_:af)(_:Option Nat)(_:TypeId)(_ _ _:Operand):Option (Vc×af):=none
def P2(E:Env)(s:af)(o:Oper):Option (Vc×af) :=
 match o.op with
 | .mapUpdate T m k x=>LN E s o.dst T m k x
 | .insert T m k x=>LN E s o.dst T m k x
 | .store T a x=>match ae E.ty T with
  | some (
      τ,_)=>match s.eval a with
   | .ptr id off=>match s.ae id with
    | some (.box cs)=>match cellsOf τ (s.eval x) with
     | some new=>match putCells cs off new with
      | some dJ=>some (.none,{ s with aH:=(id, .box dJ)::bK id s.aH }.put o.dst .any)
      | none=>none
     | none=>none
    | _=>none
   | .ei id i 0=>match s.ae id with
    | some (.row e' aZ xs)=>match decide (aZ=τ),AU (λ _=>none) aZ (s.eval x) with
     | true,some x=>some (.none,{ s with aH:=(id, .row e' aZ (xs.set i x))::bK id s.aH }.put o.dst .any)
     | _,_=>none
    | _=>none
   | _=>none
  | none=>none
 | .call c=>match c.callee with
  | .builtin .append=>match o.dst,c.argTypes.toList with
   | some d,[T,T']=>match Nat.beq T T',ae E.ty T with
    | true,some (.slice τ,b,e)=>match c.args.toList.map s.eval with
     | [.row id,y]=>match s.ae id,lF (HH s.ae) (.slice τ) y with
      | some (.row e' aZ xs),some ys=>match Nat.beq e' e,TV.Z9 (.slice τ) ⟨.slice aZ,xs⟩ with
       | true,some cX =>
        let s':=s.bW id
        some (.some (cE (cX.length+ys.length) b),{ aw:=s'.aw.set d (.row id),aH:=(id, .row e τ (cX++ys))::bK id s'.aH })
       | _,_=>none
      | _,_=>none
     | _=>none
    | _,_=>none
   | _,_=>none
  | _=>none
 | _=>none
def nodupB:List Nat->Bool
 | []=>true
 | a::r=>match r.contains a with
  | true=>false
  | false=>nodupB r
def df:Option av->Bool
 | some (.aB ..)=>true
 | _=>false
def mj(id:Nat):TV->AV
 | ⟨.slice _,_⟩ => .aB id
 | ⟨.mv _,_⟩ => .any
 | u => .aS u
def ga(id:Nat):TV->List (Nat×av)
 | ⟨.slice τ,xs⟩=>[(id, .aB τ xs)]
 | _=>[]
def ca:Nat->List TV->List AV
 | _,[]=>[]
 | id,u::r=>mj id u::ca (id+1) r
def bS:Nat->List TV->List (Nat×av)
 | _,[]=>[]
 | id,u::r=>ga id u++bS (id+1) r
def kk(id:Nat):TV->AV
 | ⟨.st s,y⟩ => .agg (ca id (s.cells y))
 | v=>mj id v
def HW:Nat->List TV->List AV
 | _,[]=>[]
 | id,v::r=>kk id v::HW (id+20) r
def bm:Nat->List TV->List (Nat×av)
 | _,[]=>[]
 | id,v::r=>bS id v.cells++bm (id+20) r
def lV(id:Nat):List TV->AV
 | [v]=>kk id v
 | vs => .j8 (HW id vs)
def Ty.agg:Ty->Bool
 | .st _=>true
 | _=>false
def Ty.xe:Ty->Bool
 | .int _ | .bool | .str | .ptr=>true
 | _=>false
def Ty.key:Ty->Bool
 | .int _ | .bool | .str=>true
 | _=>false
def Ty.plain:Ty->Bool
 | .st s=>s.uV.all Ty.xe
 | .slice _=>false
 | .mv _=>false
 | _=>true
def fu(lk:Nat->Option av)(τ:Ty):AV->Option (τ.den×List Nat)
 | .aS v=>match τ.xe,v.Z9 τ with
  | true,some y=>some (y,[])
  | _,_=>none
 | .nil=>match τ with
  | .slice _=>some ([],[])
  | _=>none
 | .aB id=>match lk id with
  | some (.aB aZ xs)=>match TV.Z9 τ ⟨.slice aZ,xs⟩ with
   | some y=>some (y,[id])
   | none=>none
  | _=>none
 | .row id=>match lk id with
  | some (.row _ aZ xs)=>match aZ.plain,TV.Z9 τ ⟨.slice aZ,xs⟩ with
   | true,some y=>some (y,[id])
   | _,_=>none
  | _=>none
 | _=>none
def Ih(lk:Nat->Option av):List AV->List Ty->Option (List TV×List Nat)
 | [],[]=>some ([],[])
 | c::cs,t::ts=>match fu lk t c with
  | some (x,i)=>match Ih lk cs ts with
   | some (r,j)=>some (⟨t,x⟩::r,i++j)
   | none=>none
  | none=>none
 | _,_=>none
def Ga(lk:Nat->Option av)(τ:Ty):AV->Option (τ.den×List Nat)
 | .agg cs=>match τ with
  | .st s=>match Ih lk cs s.uV with
   | some (l,ids)=>match s.iL l with
    | some y=>some (y,ids)
    | none=>none
   | none=>none
  | _=>none
 | v=>fu lk τ v
mutual
def AV.Ib:AV->Bool
 | .sub .. => true
 | .agg cs=>AV.pT cs
 | .j8 cs=>AV.pT cs
 | .di _ cs=>AV.pT cs
 | _=>false
def AV.pT:List AV->Bool
 | []=>false
 | v::r=>match AV.Ib v with
  | true=>true
  | false=>AV.pT r
end
def AV.de(v:AV):AV:=match v.Ib with
 | true => .any
 | false=>v
def av.de:av->av
 | .box cs => .box (cs.map AV.de)
 | o=>o
def af.cD(s:af):af:={ aw:=s.aw.map AV.de,aH:=s.aH.map λ p=>(p.1,p.2.de) }
def af.lC(s:af)(id:Nat)(τ:Ty)(xs:List τ.den):af :=
 { s with aH:=(id, .aB τ xs)::bK id s.aH }
def af.gone(s:af)(id:Nat):af :=
 let s':=s.bW id
 { s' with aH:=bK id s'.aH }
def oZ(τ:Ty)(x:τ.den)(off:Nat)(u:TV):Option τ.den :=
 match τ with
 | .st s=>match (s.cells x)[off]? with
  | some v=>match decide (v.τ=u.τ) with
   | true=>s.iL ((s.cells x).set off u)
   | false=>none
  | none=>none
 | τ=>match Nat.beq off 0 with
  | true=>u.Z9 τ
  | false=>none
def Ty.full:Ty->Ty
 | .mv t => .slice t
 | t=>t
def Ty.a0Q:Ty->Ty->Bool
 | .st p, .st q=>decide (p.uV.map Ty.full=q.uV)
 | _,_=>false
def Ty.LO:Ty->Bool
 | .mv _=>true
 | t=>t.xe
def TI:TV->TV
 | ⟨.mv t,o⟩=>⟨.slice t,Option.getD (α:=List t.den) o []⟩
 | u=>u
def P1:TV->TV
 | ⟨.mv t,_⟩=>⟨.mv t,(none:Option (List t.den))⟩
 | u=>u
def xG:List TV->Prop
 | []=>True
 | ⟨.mv t,o⟩::r=>Option.isSome (α:=List t.den) o=true/\xG r
 | _::r=>xG r
def ZY(_:af)(_:Nat)(_:OJ)(_:List AV):Option (Vc×af):=none
def QF(E:Env)(s:af)(o:Oper):Option (Vc×af) :=
 match o.op with
 | .indexAddr T x ix=>match ae E.ty T with
  | some (.slice τ,_)=>match s.eval ix,s.eval x with
   | .aS ⟨.int _,n⟩, .aB id=>match s.ae id with
    | some (.aB aZ xs)=>match decide (aZ=τ)||aZ.a0Q τ with
     | true=>some (.some (aV n xs.length),s.put o.dst (.eH id n.toNat 0 τ.size))
     | false=>none
    | _=>none
   | _,_=>none
  | _=>none
 | .fieldAddr T x i=>match ae E.ty T with
  | some (.st n,_)=>match s.eval x with
   | .eH id k off sz=>match Nat.blt i n.gV.length with
    | true=>some (.none,s.put o.dst (.eH id k (off+n.fH i) sz))
    | false=>none
   | _=>none
  | _=>none
 | .load T ad=>match ae E.ty T with
  | some (
      τ,_)=>match s.eval ad with
   | .eH id i off sz=>match s.ae id with
    | some (.aB aZ xs)=>match TV.part ⟨aZ,xs.getD i aZ.zero⟩ off τ,Nat.beq aZ.size sz&&(!τ.agg&&Nat.blt off aZ.size) with
     | some u,true=>match τ.xe with
      | true=>some (.none,s.put o.dst (.aS u))
      | false=>some (.none,s.put o.dst (.sub id i off sz))
     | _,_=>none
    | _=>none
   | _=>none
  | none=>none
 | .store T ad x=>match ae E.ty T with
  | some (
      τ,_)=>match s.eval ad with
   | .eH id i off sz=>match s.ae id with
    | some (
        .aB aZ xs)=>match Nat.beq aZ.size sz&&Nat.blt off aZ.size with
     | true=>match τ.xe with
      | true=>match fu (λ _=>none) τ (s.eval x) with
       | some (u,_)=>match TV.part ⟨aZ,xs.getD i aZ.zero⟩ off τ,oZ aZ (xs.getD i aZ.zero) off ⟨τ,u⟩ with
        | some _,some y=>some (.none,(s.cD.lC id aZ (xs.set i y)).put o.dst .any)
        | _,_=>none
       | none=>none
      | false=>match Nat.beq off 0,Ga s.ae τ (s.eval x) with
       | true,some (y,ids)=>match nodupB (id::ids),TV.Z9 aZ ⟨τ,y⟩ with
        | true,some y'=>some (.none,((ids.foldl af.gone s).cD.lC id aZ (xs.set i y')).put o.dst .any)
        | _,_=>none
       | _,_=>none
     | false=>none
    | _=>none
   | _=>none
  | none=>none
 | .makeSlice T l cc=>match o.dst,ae E.ty T with
  | some d,some (.slice τ,b,_)=>match E.own.contains d&&Nat.blt d 50 with
   | true=>match s.eval l,s.eval cc with
    | .aS ⟨.int .i64,n⟩, .aS ⟨.int .i64,m⟩=>some (.some (jQ n m b),{ aw:=(s.gone d).aw.set d (.aB d),aH:=(d, .aB τ (List.replicate n.toNat τ.zero))::(s.gone d).aH })
    | _,_=>none
   | false=>none
  | _,_=>none
 | .call c=>match c.callee with
  | .builtin .len=>match c.argTypes.toList,c.args.toList.map s.eval with
   | [T],[.aB id]=>match ae E.ty T,s.ae id with
    | some (.slice _,_),some (.aB _ xs)=>some (.none,s.put o.dst (.aS ⟨.int .i64,(xs.length:Int)⟩))
    | _,_=>none
   | _,_=>none
  | .value (
       .func f)=>match o.dst with
   | some d=>match E.own.contains d with
    | true=>match E.mark f with
     | some m=>ZY s d m (c.args.toList.map s.eval)
     | none=>match nQ E s.ae c.argTypes.toList (c.args.toList.map s.eval) with
      | some Z9=>match E.HI f Z9 with
       | some (pre,res)=>match ((bm (100 * (d+1)) res).all λ p=>(s.ae p.1).isNone)&&nodupB ((bm (100 * (d+1)) res).map (·.1)) with
        | true=>some (pre,{ aw:=s.aw.set d (lV (100 * (d+1)) res),aH:=bm (100 * (d+1)) res++s.aH })
        | false=>none
       | none=>none
      | none=>none
    | false=>none
   | none=>none
  | _=>none
 | _=>none
def bM(d:Nat):Nat:=100 * (d+1)
def CL(lk:Nat->Option av)(τ:Ty):Nat->List (Nat×AV)->Option (List τ.den×List Nat)
 | _,[]=>some ([],[])
 | n,(
    i,v)::r=>match Nat.beq i n with
  | true=>match Ga lk τ v with
   | some (x,ids)=>match CL lk τ (n+1) r with
    | some (xs,js)=>some (x::xs,ids++js)
    | none=>none
   | none=>none
  | false=>none
def af.sL(s:af)(d:Nat)(τ:Ty)(xs:List τ.den):af :=
 { aw:=s.aw.set d (.aB (bM d)),aH:=(bM d, .aB τ xs)::s.aH }
def iD(E:Env)(lk:Nat->Option av):List Bool->List TypeId->List AV->Option (List (Option TV)×List Nat)
 | [],[],[]=>some ([],[])
 | true::fl,T::Ts,v::vs=>match ae E.ty T with
  | some (τ,_)=>match Ga lk τ v with
   | some (x,i)=>match iD E lk fl Ts vs with
    | some (r,j)=>some (some ⟨τ,x⟩::r,i++j)
    | none=>none
   | none=>none
  | none=>none
 | false::fl,_::Ts,_::vs=>match iD E lk fl Ts vs with
  | some (r,j)=>some (none::r,j)
  | none=>none
 | _,_,_=>none
def fV(E:Env)(lk:Nat->Option av):List (Option TV)->List TypeId->List AV->Option (List Arg)
 | [],[],[]=>some []
 | some x::r,_::Ts,_::vs=>match fV E lk r Ts vs with
  | some Z9=>some (.own x::Z9)
  | none=>none
 | none::r,T::Ts,v::vs=>match L9 E lk T v with
  | some x=>match x.F8,fV E lk r Ts vs with
   | true,some Z9=>some (x::Z9)
   | _,_=>none
  | none=>none
 | _,_,_=>none
def PU(E:Env)(s:af)(o:Oper):Option (Vc×af) :=
 match o.dst with
 | some d=>match E.own.contains d with
  | true=>match o.op with
   | .buildSlice T len parts=>match ae E.ty T with
    | some (.slice τ,_)=>match Nat.beq parts.size len&&Nat.ble len 1000 with
     | true=>match CL s.ae τ 0 (parts.toList.map λ p=>(p.1,s.eval p.2)) with
      | some (xs,ids)=>match nodupB ids,(ids.foldl af.gone s).ae (bM d) with
       | true,none=>some (.none,(ids.foldl af.gone s).sL d τ xs)
       | _,_=>none
      | none=>none
     | false=>none
    | _=>none
   | .load T ad=>match ae E.ty T,s.eval ad with
    | some (.st q,_), .eH id i 0 sz=>match s.ae id with
     | some (.aB (.st p) xs)=>match Nat.beq p.size sz&&p.uV.all Ty.LO,p.iL ((p.cells (xs.getD i (Ty.zero (.st p)))).map P1),q.iL ((p.cells (xs.getD i (Ty.zero (.st p)))).map TI) with
      | true,some y,some z=>match ((bS (bM d) (q.cells z)).all λ e=>(s.ae e.1).isNone)&&nodupB ((bS (bM d) (q.cells z)).map (·.1)) with
       | true=>some (.some (xG (p.cells (xs.getD i (Ty.zero (.st p))))),{ aw:=s.cD.aw.set d (kk (bM d) ⟨.st q,z⟩),aH:=bS (bM d) (q.cells z)++(s.cD.lC id (.st p) (xs.set i y)).aH })
       | false=>none
      | _,_,_=>none
     | _=>none
    | _,_=>none
   | .call c=>match c.callee with
    | .builtin .append=>match c.argTypes.toList with
     | [T,T']=>match Nat.beq T T',ae E.ty T with
      | true,some (.slice τ,b,_)=>match c.args.toList.map s.eval with
       | [x,y]=>match fu s.ae (.slice τ) x,fu s.ae (.slice τ) y with
        | some (xs,i),some (ys,j)=>match nodupB (i++j),((i++j).foldl af.gone s).ae (bM d) with
         | true,none=>some (.some (cE (xs.length+ys.length) b),((i++j).foldl af.gone s).sL d τ (xs++ys))
         | _,_=>none
        | _,_=>none
       | _=>none
      | _,_=>none
     | _=>none
    | .value (
         .func f)=>match E.tk f with
     | []=>none
     | fl=>match iD E s.ae fl c.argTypes.toList (c.args.toList.map s.eval) with
      | some (own,ids)=>match nodupB ids,fV E (ids.foldl af.gone s).ae own c.argTypes.toList (c.args.toList.map (ids.foldl af.gone s).eval) with
       | true,some Z9=>match E.HI f Z9 with
        | some (pre,res)=>match ((bm (bM d) res).all λ p=>((ids.foldl af.gone s).ae p.1).isNone)&&nodupB ((bm (bM d) res).map (·.1)) with
         | true=>some (pre,{ aw:=(ids.foldl af.gone s).aw.set d (lV (bM d) res),aH:=bm (bM d) res++(ids.foldl af.gone s).aH })
         | false=>none
        | none=>none
       | _,_=>none
      | none=>none
    | _=>none
   | _=>none
  | false=>none
 | none=>none
def kp:List (Option Nat)->List AV->List (Nat×Nat)->Option (List (Nat×Nat))
 | [],[],m=>some m
 | some k::fl,v::vs,m=>match v with
  | .ptr id 0=>match ae m k with
   | some i=>match Nat.beq i id with
    | true=>kp fl vs m
    | false=>none
   | none=>kp fl vs ((k,id)::m)
  | _=>none
 | none::fl,_::vs,m=>kp fl vs m
 | _,_,_=>none
def dc(lk:Nat->Option av):List CK->List AV->List (Nat×Nat)->Option (List TV×List Nat×List (Nat×Nat))
 | [],[],m=>some ([],[],m)
 | .d τ::ks,v::vs,m=>match lF (λ _=>none) τ v,τ.agg with
  | some x,false=>match dc lk ks vs m with
   | some (ds,ids,m)=>some (⟨τ,x⟩::ds,ids,m)
   | none=>none
  | _,_=>none
 | .o τ::ks,v::vs,m=>match fu lk τ v,τ.agg with
  | some (x,i),false=>match dc lk ks vs m with
   | some (ds,ids,m)=>some (⟨τ,x⟩::ds,i++ids,m)
   | none=>none
  | _,_=>none
 | .p j::ks,v::vs,m=>match v with
  | .ptr id 0=>match ae m j with
   | some i=>match Nat.beq i id with
    | true=>dc lk ks vs m
    | false=>none
   | none=>dc lk ks vs ((j,id)::m)
  | _=>none
 | _,_,_=>none
def jZ(lk:Nat->Option av):List (List CK)->Nat->List (Nat×Nat)->Option (List (List TV)×List Nat×List (Nat×Nat))
 | [],_,m=>some ([],[],m)
 | ks::sh,k,m=>match ae m k with
  | some id=>match lk id with
   | some (.box cs)=>match dc lk ks cs m with
    | some (ds,i,m)=>match jZ lk sh (k+1) m with
     | some (bO,ids,m)=>some (ds::bO,i++ids,m)
     | none=>none
    | none=>none
   | _=>none
  | none=>none
def xx(lk:Nat->Option av)(ids:List Nat)(id:Nat):Option av:=match ids.contains id with
 | true=>none
 | false=>match lk id with
  | some (.box cs)=>some (.box cs)
  | _=>none
def Arg.a2p:Arg->Bool
 | .di _=>false
 | _=>true
def sB(E:Env)(lk:Nat->Option av):List (Option Nat)->List TypeId->List AV->Option (List Arg)
 | [],[],[]=>some []
 | some k::fl,_::Ts,_::vs=>match sB E lk fl Ts vs with
  | some r=>some (.box k::r)
  | none=>none
 | none::fl,T::Ts,v::vs=>match L9 E lk T v with
  | some x=>match x.a2p,sB E lk fl Ts vs with
   | true,some r=>some (x::r)
   | _,_=>none
  | none=>none
 | _,_,_=>none
def bV(m:List (Nat×Nat)):List CK->List AV->List TV->Nat->Option (List AV×List (Nat×av)×Nat)
 | [],[],[],n=>some ([],[],n)
 | .d τ::ks,_::cs,v::ds,n=>match decide (v.τ=τ) with
  | true=>match bV m ks cs ds n with
   | some (r,os,n)=>some (.aS v::r,os,n)
   | none=>none
  | false=>none
 | .o τ::ks,_::cs,v::ds,n=>match decide (v.τ=τ) with
  | true=>match bV m ks cs ds (n+1) with
   | some (r,os,n')=>some (mj n v::r,ga n v++os,n')
   | none=>none
  | false=>none
 | .p j::ks,c::cs,ds,n=>match c with
  | .ptr id 0=>match ae m j with
   | some i=>match Nat.beq i id,bV m ks cs ds n with
    | true,some (r,os,n)=>some (.ptr id 0::r,os,n)
    | _,_=>none
   | none=>none
  | _=>none
 | _,_,_,_=>none
def ss(lk:Nat->Option av)(m:List (Nat×Nat)):List (List CK)->Nat->List (List TV)->Nat->Option (List (Nat×av)×List (Nat×av))
 | [],_,[],_=>some ([],[])
 | ks::sh,k,ds::bO,n=>match ae m k with
  | some id=>match lk id with
   | some (.box cs)=>match bV m ks cs ds n with
    | some (r,os,n)=>match ss lk m sh (k+1) bO n with
     | some (bs,ts)=>some ((id, .box r)::bs,os++ts)
     | none=>none
    | none=>none
   | _=>none
  | none=>none
 | _,_,_,_=>none
def ia:List Nat->List (Nat×av)->List (Nat×av)
 | [],os=>os
 | id::r,os=>ia r (bK id os)
def QX(E:Env)(s:af)(o:Oper):Option (Vc×af) :=
 match o.dst with
 | some d=>match o.op with
  | .call c=>match c.callee with
   | .value (
        .func f)=>match E.sk f with
    | some sk=>match kp sk.ps (c.args.toList.map s.eval) [] with
     | some m0=>match jZ s.ae sk.sh 0 m0 with
      | some (
          bO,ids,m)=>match nodupB ids&&(nodupB (m.map (·.1))&&(nodupB (m.map (·.2))&&Nat.beq m.length sk.sh.length)) with
       | true=>match sB E (xx (ids.foldl af.gone s).ae (m.map (·.2))) sk.ps c.argTypes.toList (c.args.toList.map (ids.foldl af.gone s).eval) with
        | some Z9=>match E.Pr f Z9 bO with
         | some (pre,res,fw)=>match ss (ids.foldl af.gone s).ae m sk.sh 0 fw (bM d+60) with
          | some (bs,ts)=>match ((bm (bM d) res++ts).all λ p=>((ids.foldl af.gone s).ae p.1).isNone)&&nodupB ((bm (bM d) res++ts).map (·.1)) with
           | true=>some (pre,{ aw:=(ids.foldl af.gone s).aw.set d (lV (bM d) res),aH:=bs++(bm (bM d) res++ts)++ia (m.map (·.2)) (ids.foldl af.gone s).aH })
           | false=>none
          | none=>none
         | none=>none
        | none=>none
       | false=>none
      | none=>none
     | none=>none
    | none=>none
   | _=>none
  | _=>none
 | none=>none
def known(v:AV)(K:Prop):Prop :=
 match v with
 | .aS ⟨.int .i64,n⟩=>ag n->K
 | .aS ⟨.slice _,xs⟩=>xs.length<=140737488355328->K
 | .aS ⟨.str,xs⟩=>xs.length<=140737488355328->K
 | _=>K
def N5:Op->Bool
 | .load .. | .field .. | .index .. | .extract .. => true
 | .call c=>match c.callee with
  | .builtin .append=>false
  | _=>true
 | _=>false
def tI:Option Nat->Bool
 | none=>true
 | some d=>Nat.blt d 400000
def QD(E:Env)(s:af)(o:Oper):Option (Vc×AV×Option av):=match o.op with
 | .call c=>match c.callee with
  | .value (.func f)=>match o.dst with
   | some d=>match nQ E (sH s.ae) c.argTypes.toList (c.args.toList.map s.eval) with
    | some Z9=>match E.Nw f Z9 with
     | some (pre, .box cells)=>some (pre, .ptr d 0,some (.box (cells.map .aS)))
     | some (pre, .row e τ xs)=>some (pre, .row d,some (.row e τ xs))
     | none=>none
    | none=>none
   | none=>none
  | _=>none
 | _=>none
def mM(E:Env)(o:Oper)(K:af->Prop)(s:af):Prop :=
 match tI o.dst with
 | false=>False
 | true =>
 let s:=(mA E s o).foldl af.freeze s
 match QX E s o with
 | some (vc,s')=>vc.and (K s')
 | none=>match PU E s o with
 | some (vc,s')=>vc.and (K s')
 | none=>match P2 E s o with
 | some (vc,s')=>vc.and (K s')
 | none=>match QF E s o with
 | some (vc,s')=>vc.and (K s')
 | none=>match QD E s o with
 | some (vc,v,ob)=>vc.and (K (s.lay o.dst v ob))
 | none=>match F0 E s.ae s.eval o with
  | some (vc,v,ob)=>vc.and (match N5 o.op with
   | true=>known v (K (s.lay o.dst v ob))
   | false=>K (s.lay o.dst v ob))
  | none=>False
def va(ops:Array Oper)(g:Nat):Option Nat:=(ops[g]?).bind (·.dst)
def fv(
      E:Env) (ops:Array Oper):List Oper->List (Nat×Bool)->(af->Prop)->af->Prop
 | [],_,Q,s=>Q s
 | o::r,kn,Q,s=>match o.guard with
  | none=>mM E o (fv E ops r kn Q) s
  | some (
      g,want)=>match va ops g with
   | none=>False
   | some t=>match ae kn t with
    | some b=>match s.eval (.tmp t) with
     | .aS ⟨.bool,b'⟩=>match b' == b,b == want with
      | true,true=>mM E o (fv E ops r kn Q) s
      | true,false=>fv E ops r kn Q (s.put o.dst .eC)
      | false,_=>False
     | .eC=>fv E ops r kn Q (s.put o.dst .eC)
     | _=>False
    | none=>match s.eval (.tmp t) with
     | .aS ⟨.bool,b⟩ =>
      (b=want->mM E o (fv E ops r ((t,want)::kn) Q) (s.put (some t) (.aS ⟨.bool,want⟩))) /\
      (b = !want->fv E ops r ((t,!want)::kn) Q ((s.put (some t) (.aS ⟨.bool,!want⟩)).put o.dst .eC))
     | .eC=>fv E ops r kn Q (s.put o.dst .eC)
     | _=>False
def uD(acc:List Nat)(s:Nat)(e:Edge):Nat :=
 match Region.binds .any e with
 | true=>s ||| (1 <<< e.on ||| acc.getD e.on 0)
 | false=>s
def bN:List Oper->List Nat->List Nat
 | [],acc=>acc
 | o::r,acc=>bN r (acc++[o.after.toList.foldl (uD acc) 0])
def o5:List Nat->Nat->Nat->Nat
 | [],_,m=>m
 | b::r,i,m=>match Nat.beq (b+1) (2 ^ i) with
  | true=>o5 r (i+1) m
  | false=>o5 r (i+1) (i+1)
def cj(ops:List Oper)(k:Nat):Option Nat:=(ops[k]?).bind (·.dst)
def hidden(ops:List Oper)(m bits t:Nat):Bool:=(List.range m).any λ k=>match cj ops k with
 | some d=>match Nat.beq d t with
  | true => !Nat.testBit bits k
  | false=>false
 | none=>false
def Oo(ops:List Oper)(m bits:Nat)(s:af):Operand->AV
 | .tmp t=>match hidden ops m bits t with
  | true => .any
  | false=>s.eval (.tmp t)
 | x=>s.eval x
def Ld(ops:List Oper)(m bits:Nat)(s:af)(id:Nat):Option av:=match hidden ops m bits id with
 | true=>none
 | false=>s.ae id
def uU:Op->Bool
 | .alloc _ | .box .. | .buildSlice .. | .makeSlice .. | .makeMap .. => true
 | .call c=>match c.callee with
  | .builtin .append=>true
  | _=>false
 | _=>false
def af.fresh(s:af)(o:Oper):af :=
 match uU o.op,o.dst with
 | true,some d=>let s':=s.bW d
  { s' with aH:=bK d s'.aH }
 | _,_=>s
def af.lu(s:af)(d:Option Nat)(v:AV)(o:Option av):af :=
 match d with
 | some d=>{ aw:=s.aw.set d v,aH:=match o with
  | some o=>(d,o)::s.aH
  | none=>s.aH }
 | none=>s
def H6(E:Env)(ops:List Oper)(m bits:Nat)(o:Oper)(K:af->Prop)(s:af):Prop :=
 match mA E s o with
 | []=>match F0 E (Ld ops m bits s) (Oo ops m bits s) o with
  | some (vc,v,ob)=>vc.and (K (s.lu o.dst v ob))
  | none=>False
 | _=>False
def n7(
      E:Env) (ops:List Oper) (m:Nat) (bT:List Nat):Nat->List Oper->List (Nat×Bool)->(List (Nat×Bool)->af->Prop)->af->Prop
 | _,[],kn,Q,s=>Q kn s
 | i,o::r,kn,Q,s=>match o.guard with
  | none=>H6 E ops m (bT.getD i 0) o (n7 E ops m bT (i+1) r kn Q) s
  | some (
      g,want)=>match cj ops g,Nat.testBit (bT.getD i 0) g with
   | some t,true=>match ae kn t with
    | some b=>match s.eval (.tmp t) with
     | .aS ⟨.bool,b'⟩=>match b' == b,b == want with
      | true,true=>H6 E ops m (bT.getD i 0) o (n7 E ops m bT (i+1) r kn Q) s
      | true,false=>n7 E ops m bT (i+1) r kn Q (s.put o.dst .eC)
      | false,_=>False
     | .eC=>n7 E ops m bT (i+1) r kn Q (s.put o.dst .eC)
     | _=>False
    | none=>match s.eval (.tmp t) with
     | .aS ⟨.bool,b⟩ =>
      (b=want->H6 E ops m (bT.getD i 0) o (n7 E ops m bT (i+1) r ((t,want)::kn) Q) (s.put (some t) (.aS ⟨.bool,want⟩))) /\
      (b = !want->n7 E ops m bT (i+1) r ((t,!want)::kn) Q ((s.put (some t) (.aS ⟨.bool,!want⟩)).put o.dst .eC))
     | .eC=>n7 E ops m bT (i+1) r kn Q (s.put o.dst .eC)
     | _=>False
   | _,_=>False
def distinct:List (Option Nat)->Bool
 | []=>true
 | none::_=>false
 | some d::r=>match r.any λ x=>match x with
   | some e=>Nat.beq d e
   | none=>false with
  | true=>false
  | false=>distinct r
def backward(ops:List Oper):Bool:=(List.range ops.length).all λ i=>match ops[i]? with
 | some o=>o.after.toList.all λ e=>match Region.binds .any e with
  | true=>Nat.blt e.on i
  | false=>true
 | none=>true
def uF(ops:List Oper)(s:af)(K:Prop):Prop :=
 match ops with
 | []=>K
 | o::r=>match N5 o.op,o.dst with
  | true,some d=>known (s.aw.getD d .any) (uF r s K)
  | _,_=>uF r s K
def Nf(bT:List Nat)(p:Nat):Bool:=(bT.drop p).all λ b=>Nat.beq (b % 2 ^ p) (2 ^ p - 1)
def PW(bT:List Nat):List Nat->List Nat
 | []=>[]
 | p::r=>match Nf bT p with
  | true=>p::PW bT r
  | false=>PW bT r
def uX:List (Option Nat)->Bool
 | []=>true
 | none::r=>uX r
 | some d::r=>match r.any λ x=>match x with
   | some e=>Nat.beq d e
   | none=>false with
  | true=>false
  | false=>uX r
def BM(l:List Oper)(lo hi:Nat):Bool :=
 ((
  (l.take hi).drop lo).all λ o=>tI o.dst)&&uX (((l.take hi).drop lo).map (·.dst))&&(l.take lo).all λ o=>match o.dst with
  | none=>true
  | some d => !(((l.take hi).drop lo).any λ p=>match p.dst with
   | some e=>Nat.beq d e
   | none=>false)
def Oper.alone(E:Env)(o:Oper):Bool:=match o.op with
 | .store .. | .mapUpdate .. | .insert .. => true
 | _=>match o.dst with
  | some d=>E.own.contains d
  | none=>false
def vO(u v:TV):Prop:=match u.Z9 v.τ with
 | some x=>x=v.x
 | none=>False
def QG:Op->Option (List Operand)
 | .move x | .assign x | .nilCheck x | .fieldAddr _ x _ | .load _ x | .box _ x | .extract x _=>some [x]
 | .indexAddr _ x i | .store _ x i | .lookup _ x i _=>some [x,i]
 | .mapUpdate _ m k x | .insert _ m k x=>some [m,k,x]
 | .makeMap _ none=>some []
 | .alloc _=>some []
 | .binOp _ _ x y _=>some [x,y]
 | .build _ ps=>some (ps.toList.map (·.2))
 | .buildSlice _ _ ps=>some (ps.toList.map (·.2))
 | .call c=>match c.callee with
  | .value f=>some (f::c.args.toList)
  | .builtin _=>some c.args.toList
  | _=>none
 | _=>none
def gF(D:List Nat)(o:Oper):Bool:=match QG o.op with
 | some l=>l.all λ x=>match x with
  | .tmp t => !D.contains t
  | _=>true
 | none=>false
def reads:Op->Bool
 | .move _ | .nilCheck _ | .fieldAddr .. | .load .. | .indexAddr .. => true
 | _=>false
def Wh(E:Env)(s:af)(o:Oper):Option (Vc×AV):=match reads o.op with
 | true=>match F0 E s.ae s.eval o with
  | some (vc,v,none)=>some (vc,v)
  | _=>none
 | false=>none
def Gv:AV->AV->Prop
 | .aS v, .aS u=>vO v u
 | .fX v, .fX u=>vO v u
 | .aB i, .aB j=>i=j
 | .row i, .row j=>i=j
 | .ptr i p, .ptr j q=>i=j/\p=q
 | .nil, .nil=>True
 | _,_=>False
def Mc:List AV->List AV->Prop
 | [],[]=>True
 | a::Z9,b::bs=>Gv a b/\Mc Z9 bs
 | _,_=>False
def PQ(a b:AV):Prop:=match a,b with
 | .agg Z9, .agg bs=>Mc Z9 bs
 | a,b=>Gv a b
def iM(E:Env):List (Nat×Oper)->af->Prop->Prop
 | [],_,K=>K
 | r::rs,s,K=>match r.2.dst,Wh E s r.2 with
  | some d,some (vc,v)=>vc.and (PQ v (s.aw.getD d .any)/\iM E rs s K)
  | _,_=>False
def Gw(E:Env):List (Nat×Oper)->(af->Prop)->af->Prop
 | [],K,s=>K s
 | r::rs,K,s=>match r.2.dst,Wh E s r.2 with
  | some d,some (vc,v)=>vc.and (known v (Gw E rs K (s.put (some d) v)))
  | _,_=>False
def dstsOf(R:List (Nat×Oper)):List Nat:=R.filterMap λ r=>r.2.dst
def oV:Op->Bool
 | .alloc _=>true
 | _=>false
def lP:Op->Bool
 | .extract .. => true
 | _=>false
def wD:Op->Bool
 | .buildSlice _ len ps=>Nat.beq len 0&&Nat.beq ps.size 0
 | _=>false
def dG(op:Op):Bool:=oV op||(lP op||wD op)
def sF(X:List (Nat×Oper)):List Nat:=X.filterMap λ x=>match dG x.2.op with
 | true=>x.2.dst
 | false=>none
def wm(s:af):Op->Bool
 | .extract t i=>match s.eval t with
  | .j8 vs=>Nat.blt i vs.length
  | _=>false
 | _=>true
def QB(bT:List Nat)(X:List (Nat×Oper))(s:af):Bool:=X.all λ e=>wm s e.2.op||X.any λ y => !dG y.2.op&&Nat.testBit (bT.getD e.1 0) y.1
def HA(bT:List Nat)(x:Nat×Oper):List (Nat×Oper)->List (Nat×Oper)
 | []=>[x]
 | y::ys=>match Nat.testBit (bT.getD y.1 0) x.1 with
  | true=>x::y::ys
  | false=>y::HA bT x ys
def FH(bT:List Nat):List (Nat×Oper)->List (Nat×Oper)
 | []=>[]
 | x::xs=>match dG x.2.op with
  | true=>HA bT x (FH bT xs)
  | false=>x::FH bT xs
def qv(E:Env)(o:Oper):Bool:=match o.op with
 | .alloc T=>o.dst.isSome&&(tI o.dst&&(ae E.ty T).isSome)
 | .extract .. => o.dst.isSome
 | .buildSlice T len ps => !(Nat.beq len 0&&Nat.beq ps.size 0)||(match o.dst,ae E.ty T with
  | some d,some (.slice _,_)=>Nat.blt d 400000&&(E.ro.contains d && !E.own.contains d)
  | _,_=>false)
 | _=>true
def Mm(bT:List Nat)(X:List (Nat×Oper))(y:Nat×Oper):Bool := !dG y.2.op&&X.all λ z=>dG z.2.op || !Nat.testBit (bT.getD y.1 0) z.1
def xX(p:Nat×Oper->Bool)(f:Nat×Oper->Prop):List (Nat×Oper)->Prop
 | []=>True
 | y::ys=>match p y with
  | true=>f y/\xX p f ys
  | false=>xX p f ys
def jA(E:Env)(bT:List Nat):Nat->List (Nat×Oper)->List (Nat×Oper)->(af->Prop)->af->Prop
 | 0,_,X,K,s=>match X with
  | []=>K s
  | _::_=>False
 | n+1,R,X,K,s=>match X with
  | []=>K s
  | x::xs=>match QB bT (x::xs) s with
   | true=>match gF (dstsOf (R.filter λ r => !Nat.testBit (bT.getD x.1 0) r.1)++sF xs) x.2&&xs.all λ y=>dG y.2.op||Nat.testBit (bT.getD y.1 0) x.1 with
    | true=>mM E x.2 (λ s'=>iM E (R.filter λ r => !Nat.testBit (bT.getD x.1 0) r.1) s' (jA E bT n (R.filter λ r => !Nat.testBit (bT.getD x.1 0) r.1) xs K s')) s
    | false=>match dG x.2.op with
     | true=>False
     | false=>xX (Mm bT (x::xs)) (λ y=>match gF (dstsOf (R.filter λ r => !Nat.testBit (bT.getD y.1 0) r.1)++sF ((x::xs).filter λ z => !Nat.beq z.1 y.1)) y.2 with
      | true=>mM E y.2 (λ s'=>iM E (R.filter λ r => !Nat.testBit (bT.getD y.1 0) r.1) s' (jA E bT n (R.filter λ r => !Nat.testBit (bT.getD y.1 0) r.1) ((x::xs).filter λ z => !Nat.beq z.1 y.1) K s')) s
      | false=>False) (x::xs)
   | false=>False
def mW:Nat->List Oper->List (Nat×Oper)
 | _,[]=>[]
 | i,o::r=>(i,o)::mW (i+1) r
def oz(bT:List Nat)(fK:List (Nat×Oper))(r:Nat×Oper):Bool :=
 reads r.2.op&&fK.all λ y=>reads y.2.op || !Nat.testBit (bT.getD r.1 0) y.1
def X2(E:Env)(bT:List Nat)(fK:List (Nat×Oper)):Bool :=
 (fK.all λ r=>r.2.guard.isNone&&qv E r.2)&&fK.all λ r => !(oz bT fK r||lP r.2.op)||gF (dstsOf (fK.filter λ y => !Nat.testBit (bT.getD r.1 0) y.1)++bif lP r.2.op then sF fK else []) r.2
def UK(E:Env)(bT:List Nat)(fK:List (Nat×Oper))(K:af->Prop)(s:af):Prop :=
 match X2 E bT fK with
 | true=>Gw E (fK.filter (oz bT fK)) (λ s'=>iM E (fK.filter (oz bT fK)) s' (jA E bT fK.length (fK.filter (oz bT fK)) (FH bT (fK.filter λ r => !oz bT fK r)) K s')) s
 | false=>False
def uP(E:Env)(ops:Array Oper)(l:List Oper)(bT:List Nat):List Nat->Nat->List (Nat×Bool)->(af->Prop)->af->Prop
 | [],lo,_,Q,s=>match Nat.beq lo l.length with
  | true=>Q s
  | false=>False
 | hi::r,lo,kn,Q,s=>match Nf bT hi&&(Nf bT lo&&(Nat.blt lo hi&&Nat.ble hi l.length)) with
  | true=>match Nat.beq hi (lo+1) with
   | true=>fv E ops ((l.take hi).drop lo) kn (uP E ops l bT r hi kn Q) s
   | false=>match BM l lo hi,((l.take hi).drop lo).any (Oper.alone E) with
    | true,true=>UK E bT (mW lo ((l.take hi).drop lo)) (uP E ops l bT r hi kn Q) s
    | true,false=>n7 E l hi bT lo ((l.take hi).drop lo) kn (λ kn s=>uF ((l.take hi).drop lo) s (uP E ops l bT r hi kn Q s)) (((l.take hi).drop lo).foldl af.fresh s)
    | false,_=>False
  | false=>False
def Mf(E:Env)(ops:Array Oper)(Q:af->Prop)(s:af):Prop :=
 let l:=ops.toList
 let bT:=bN l []
 let m:=o5 bT 0 0
 match ((l.take m).all λ o=>tI o.dst)&&(distinct ((l.take m).map (·.dst))&&backward l) with
 | true=>n7 E l m bT 0 (l.take m) [] (λ kn s=>uF (l.take m) s (fv E ops (l.drop m) kn Q s)) ((l.take m).foldl af.fresh s)
 | false=>False
def Md(E:Env)(ops:Array Oper)(Q:af->Prop)(s:af):Prop :=
 let l:=ops.toList
 let bT:=bN l []
 match (l.take (o5 bT 0 0)).any (Oper.alone E) with
 | false=>Mf E ops Q s
 | true=>match backward l with
  | true=>uP E ops l bT (PW bT ((List.range l.length).map (·+1))) 0 [] Q s
  | false=>False
inductive aX:Type 1 where
 | none
 | mk (ι:Type) (P:ι->Prop) (μ:ι->Nat) (fz dead:List Nat) (ins:ι->List (Nat×AV)) (aM:List Nat) (os:ι->List (Nat×av)) (Pq ren:List (Nat×Nat)) (sub:ι->Nat->aX)
def Code.y7:Code->List Nat
 | .region _ ops _=>ops.toList.filterMap (·.dst)
 | .seq a b=>Code.y7 a++Code.y7 b
 | .cond _ a b=>Code.y7 a++Code.y7 b
 | .block _ c=>Code.y7 c
 | .loop c=>Code.y7 c
 | .scope c=>Code.y7 c
 | _=>[]
def Code.first:Code->Option Nat
 | .region id _ _=>some id
 | .seq a _=>Code.first a
 | .block _ c=>Code.first c
 | .loop c=>Code.first c
 | .cond _ a _=>Code.first a
 | _=>none
def Code.ZW(Λ:Nat->aX)(b:Code):aX:=match Code.first b with
 | some r=>Λ (r+100000)
 | none => .none
def Vm(sl:List AV):List (Nat×AV)->List AV
 | []=>sl
 | (t,v)::r=>Vm (sl.set t v) r
def Jh(aM:List Nat):List (Nat×av)->List (Nat×av)
 | []=>[]
 | (k,o)::r=>match aM.contains k with
  | true=>(k,o)::Jh aM r
  | false=>Jh aM r
def rU(s:af)(y7:List Nat)(ins:List (Nat×AV))(aM:List Nat)(os:List (Nat×av)):af :=
 { aw:=Vm (y7.foldl (λ l t=>l.set t .any) s.aw) ins,aH:=os++Jh aM s.aH }
def du(ρ:List (Nat×Nat))(id:Nat):Nat:=match ae ρ id with
 | some k=>k
 | none=>id
def isRow:Option av->Bool
 | some (.row ..)=>true
 | _=>false
def gG:Option av->Bool
 | some (.box _)=>true
 | _=>false
def FG:Option av->Bool
 | some (.map _)=>true
 | _=>false
def AV.ug(ρ:List (Nat×Nat))(s t:af)(a b:AV):Prop :=
 match b with
 | .any=>True
 | .aS v=>match a with
  | .aS u=>vO u v
  | .nil=>match v with
   | ⟨.slice _,xs⟩=>xs=[]
   | _=>False
  | _=>False
 | .nil=>match a with
  | .nil=>True
  | _=>False
 | .fX v=>match a with
  | .fX u=>vO u v
  | _=>False
 | .ptr id off=>match a with
  | .ptr i o=>match Nat.beq i (du ρ id)&&Nat.beq o off&&gG (t.ae id) with
   | true=>True
   | false=>False
  | _=>False
 | .row id=>match a with
  | .row i=>match Nat.beq i (du ρ id)&&isRow (t.ae id) with
   | true=>True
   | false=>False
  | .nil=>match isRow (t.ae id),s.ae (du ρ id) with
   | true,Option.none=>True
   | _,_=>False
  | _=>False
 | .aB id=>match a with
  | .aB i=>match Nat.beq i (du ρ id)&&df (t.ae id) with
   | true=>True
   | false=>False
  | .nil=>match df (t.ae id),s.ae (du ρ id) with
   | true,Option.none=>True
   | _,_=>False
  | _=>False
 | .fn f=>match a with
  | .fn g=>match Nat.beq f g with
   | true=>True
   | false=>False
  | _=>False
 | .mp id=>match a with
  | .mp i=>match Nat.beq i (du ρ id)&&FG (t.ae id) with
   | true=>True
   | false=>False
  | _=>False
 | _=>False
def Ej(ρ:List (Nat×Nat))(s t:af):List AV->List AV->Prop
 | [],[]=>True
 | a::Z9,b::bs=>match b with
  | .any=>Ej ρ s t Z9 bs
  | b=>AV.ug ρ s t a b/\Ej ρ s t Z9 bs
 | _,_=>False
def AV.a0y(ρ:List (Nat×Nat))(s t:af)(a b:AV):Prop :=
 match a,b with
 | .agg Z9, .agg bs=>Ej ρ s t Z9 bs
 | a,b=>AV.ug ρ s t a b
def RQ(ρ:List (Nat×Nat))(s t:af):List AV->List AV->Prop
 | [],[]=>True
 | a::Z9,b::bs=>match b with
  | .any=>RQ ρ s t Z9 bs
  | b=>AV.a0y ρ s t a b/\RQ ρ s t Z9 bs
 | _,_=>False
def UW(u v:FV):Prop:=match u.Z9 v.ps v.r with
 | some F=>F=v.F
 | none=>False
def AV.fit(ρ:List (Nat×Nat))(s t:af)(a b:AV):Prop :=
 match a,b with
 | .di f Z9, .di g bs=>match Nat.beq f g with
  | true=>RQ ρ s t Z9 bs
  | false=>False
 | .jE u, .jE v=>UW u v
 | .agg Z9, .agg bs=>Ej ρ s t Z9 bs
 | .agg Z9, .aS v=>match AU (λ _=>none) v.τ (.agg Z9) with
  | some x=>x=v.x
  | none=>False
 | a,b=>AV.ug ρ s t a b
def x8(ρ:List (Nat×Nat))(s t:af):List AV->List AV->Prop
 | [],[]=>True
 | a::Z9,b::bs=>match b with
  | .any=>x8 ρ s t Z9 bs
  | b=>AV.fit ρ s t a b/\x8 ρ s t Z9 bs
 | _,_=>False
def toO(x:O):o7:=⟨x.ah,x.bc,some x.V⟩
def Q9(aZ:Ty)(ys:List aZ.den)(τ:Ty)(xs:List τ.den):Prop :=
 match decide (τ = .st .oExpr),decide (aZ = .st .expr) with
 | true,true=>vO ⟨.slice (.st .oExpr),((show Option (List O) from TV.Z9 (.slice (.st .expr)) ⟨.slice aZ,ys⟩).getD []).map toO⟩ ⟨.slice τ,xs⟩
 | _,_=>vO ⟨.slice aZ,ys⟩ ⟨.slice τ,xs⟩
def Ui(a b:MV):Prop:=match a.Z9 b.κ b.ε with
 | some (f,n)=>f=b.f/\n=b.n
 | none=>False
def l5(ρ:List (Nat×Nat))(s t:af):List (Nat×av)->Prop
 | []=>True
 | (id, .box bs)::r=>match s.ae (du ρ id) with
  | some (.box Z9)=>Ej ρ s t Z9 bs/\l5 ρ s t r
  | _=>False
 | (id, .row e τ xs)::r=>match s.ae (du ρ id) with
  | some (.row e' aZ ys)=>match Nat.beq e e' with
   | true=>vO ⟨.slice aZ,ys⟩ ⟨.slice τ,xs⟩/\l5 ρ s t r
   | false=>False
  | Option.none=>xs=[]/\l5 ρ s t r
  | _=>False
 | (id, .aB τ xs)::r=>match s.ae (du ρ id) with
  | some (.aB aZ ys)=>Q9 aZ ys τ xs/\l5 ρ s t r
  | Option.none=>xs=[]/\l5 ρ s t r
  | _=>False
 | (id, .map m)::r=>match s.ae (du ρ id) with
  | some (.map m')=>Ui m' m/\l5 ρ s t r
  | _=>False
def Fits(ρ:List (Nat×Nat))(s t:af):Prop :=
 match (nodupB (t.aH.map (·.1))&&nodupB (t.aH.map λ p=>du ρ p.1))&&t.aH.all (λ p=>Nat.blt p.1 50||(Nat.ble 100 p.1||(Nat.beq (du ρ p.1) p.1&&df (s.ae p.1))))&&t.aH.all (λ p=>Nat.blt p.1 400000||(!gG (some p.2)||(Nat.beq (du ρ p.1) p.1&&gG (s.ae p.1)))) with
 | true=>x8 ρ s t s.aw t.aw/\l5 ρ s t t.aH
 | false=>False
def Yd(ρ:List (Nat×Nat))(a b:AV):List (Nat×Nat):=match b with
 | .aB k=>match a with
  | .aB i=>match Nat.beq i (du ρ k) with
   | true=>[]
   | false=>[(k,i)]
  | _=>[]
 | _=>[]
def Uo(ρ:List (Nat×Nat)):List AV->List AV->List (Nat×Nat)
 | a::Z9,b::bs=>Yd ρ a b++Uo ρ Z9 bs
 | _,_=>[]
def a2u(ρ:List (Nat×Nat))(a b:AV):List (Nat×Nat):=match b with
 | .agg bs=>match a with
  | .agg Z9=>Uo ρ Z9 bs
  | _=>[]
 | b=>Yd ρ a b
def NN(ρ:List (Nat×Nat)):List AV->List AV->List (Nat×Nat)
 | a::Z9,b::bs=>a2u ρ a b++NN ρ Z9 bs
 | _,_=>[]
def De(ρ:List (Nat×Nat))(s:af):List (Nat×av)->List (Nat×Nat)
 | []=>[]
 | (id, .box bs)::r=>match s.ae (du ρ id) with
  | some (.box Z9)=>Uo ρ Z9 bs++De ρ s r
  | _=>De ρ s r
 | _::r=>De ρ s r
def P7:List (Nat×Nat)->(List (Nat×Nat)->Prop)->Prop
 | [],K=>K []
 | (a,b)::r,K=>P7 r λ r'=>K ((a,b)::r')
theorem G5:∀ {l:List (Nat×Nat)} {K:List (Nat×Nat)->Prop},P7 l K->K l
 | [],_,h=>h
 | (a,b)::r,K,h=>G5 (l:=r) (K:=λ r'=>K ((a,b)::r')) h
def LZ(ρ:List (Nat×Nat))(s t:af):Prop:=P7 (De ρ s t.aH++NN ρ s.aw t.aw) λ r=>Fits (r++ρ) s t
theorem LZ.ex{ρ:List (Nat×Nat)}{s t:af}(h:LZ ρ s t):∃ r,Fits (r++ρ) s t:=⟨_,G5 h⟩
def cU(E:Env):Code->(Nat->aX)->Nat->(Exit->af->Prop)->af->Prop
 | .skip,_,_,Q,s=>Q .normal s
 | .region _ ops draw,_,_,Q,s=>match draw with
  | true=>Md E ops (Q .normal) s
  | false=>fv E ops ops.toList [] (Q .normal) s
 | .seq a b,Λ,cur,Q,s=>match Code.ZW Λ b with
  | .none=>cU E a Λ cur (λ e s'=>match e with
   | .normal=>cU E b Λ cur Q s'
   | e=>Q e s') s
  | .mk ι P _ fz dead ins aM os Pq _ sub =>
   let y7:=dead++Code.y7 a
   cU E a Λ cur (λ e s'=>match e with
    | .normal=>∃ j:ι,P j/\LZ Pq (fz.foldl af.freeze s') (rU s y7 (ins j) aM (os j))
    | e=>Q e s') s /\
   ∀ i:ι,P i->cU E b (sub i) cur Q (rU s y7 (ins i) aM (os i))
 | .cond c a b,Λ,cur,Q,s=>match s.eval c with
  | .aS ⟨.bool,t⟩=>(t=true->cU E a Λ cur Q s)/\(t=false->cU E b Λ cur Q s)
  | _=>False
 | .block id c,Λ,_,Q,s=>cU E c Λ id (λ e s'=>match e with
  | .exit i=>match Nat.beq i id with
   | true=>Q .normal s'
   | false=>Q (.exit i) s'
  | e=>Q e s') s
 | .loop c,Λ,cur,Q,s=>match Λ cur with
  | .none=>False
  | .mk ι P μ fz dead ins aM os Pq ren sub =>
   let y7:=dead++Code.y7 c
   (∃ i:ι,P i/\LZ Pq (fz.foldl af.freeze s) (rU s y7 (ins i) aM (os i))) /\
   ∀ i:ι,P i->cU E c (sub i) cur (λ e s'=>match e with
    | .normal=>∃ j:ι,P j/\μ j<μ i/\LZ ren (fz.foldl af.freeze s') (rU s y7 (ins j) aM (os j))
    | e=>Q e s') (rU s y7 (ins i) aM (os i))
 | .exit id,_,_,Q,s=>Q (.exit id) s
 | .ret,_,_,Q,s=>Q .ret s
 | .label _,_,_,Q,s=>Q .normal s
 | _,_,_,_,_=>False
def JJ(E:Env)(s:af):List ResultVar->List TypeId->Option (List TV)
 | [],[]=>some []
 | r::rs,T::Ts=>match ae E.ty T with
  | some (τ,_)=>match (match r with
    | .tmp t=>AU (HH s.ae) τ (s.eval (.tmp t))
    | .cell a t=>match Nat.beq t T with
     | true=>deref (HH s.ae) τ (s.eval (.tmp a))
     | false=>none) with
   | some x=>match JJ E s rs Ts with
    | some l=>some (⟨τ,x⟩::l)
    | none=>none
   | none=>none
  | none=>none
 | _,_=>none
def L8:Arg->AV
 | .val v => .aS v
 | .ref v => .fX v
 | .fn f => .fn f
 | .di v => .jE v
 | .own _ => .any
 | .box _ => .any
def aO(fn:Func)(args:List Arg):af :=
 { aw:=args.map L8++List.replicate (fn.ntmps - args.length) .any,aH:=[] }
def sC:Nat->List Arg->af->af
 | _,[],s=>s
 | p, .own v::r,s=>sC (p+1) r { aw:=s.aw.set p (kk (1000000+100 * p) v),aH:=bS (1000000+100 * p) v.cells++s.aH }
 | p,_::r,s=>sC (p+1) r s
def rz(fn:Func)(args:List Arg):af:=sC 0 args (aO fn args)
def bC(E:Env)(fn:Func)(post:List TV->Prop)(e:Exit)(s:af):Prop :=
 match e with
 | .ret | .normal=>match JJ E s fn.results.toList fn.resultTypes.toList with
  | some vs=>post vs
  | none=>False
 | _=>False
def bH:List TV->List TV->Prop
 | [],[]=>True
 | [v],[u]=>vO v u
 | v::vs,u::us=>vO v u/\bH vs us
 | _,_=>False
end
end Go.Proofs.YtnehkikdlnmebaaGreatDoor

namespace Go.Proofs.YtnehkikdlnmebaaGreatDoor
def bP(w:World)(b o:Nat)(cs:List Value):Prop:=∀ j v,cs[j]?=some v->w.cell? ⟨b,o+j,none⟩=some v
def D.size:D->Nat
 | .agg ds=>ds.length
 | _=>1
mutual
def Rd(w:World)(S:Nat->Prop):D->List Value->Prop
 | .int k n,cs=>cs=[.int k n]/\k.min<=n/\n<=k.max
 | .bool b,cs=>cs=[.bool b]
 | .str s,cs=>∃ x:ByteArray,cs=[.string x]/\x.data.toList=s/\x.size<=140737488355328
 | .slice _ xs,cs=>∃ a cap,cs=[.slice a xs.length cap]/\xs.length<=cap/\cap<=maxLen/\xs.length<=140737488355328/\(xs=[]\/∃ b o,a=some ⟨b,o,none⟩/\S b/\dr w S xs b o)
 | .agg ds,cs=>dq w S ds cs
 | .hole,cs=>∃ a n m,cs=[.slice a n m]
 | .ptr,cs=>∃ p,cs=[.pointer p]
def dq(w:World)(S:Nat->Prop):List D->List Value->Prop
 | [],cs=>cs=[]
 | d::ds,cs=>∃ v r,cs=v::r/\Rd w S d [v]/\dq w S ds r
def dr(w:World)(S:Nat->Prop):List D->Nat->Nat->Prop
 | [],_,_=>True
 | d::ds,b,o=>(∃ cs,cs.length=d.size/\Rd w S d cs/\bP w b o cs)/\dr w S ds b (o+d.size)
end
theorem bP.aM{w w':World}{b o:Nat}{cs:List Value}(h:bP w b o cs)(hb:w'.heap[b]?=w.heap[b]?):bP w' b o cs :=
 λ j v hj=>by rw[<-h j v hj];exact a8q (a:=⟨b,o+j,none⟩) hb
mutual
theorem Rd.aM{w w':World}{S S':Nat->Prop}(hS:∀ b,S b->S' b)(hw:∀ b,S b->w'.heap[b]?=w.heap[b]?):∀ (d:D) {cs:List Value},Rd w S d cs->Rd w' S' d cs
 | .int _ _,_,h=>h
 | .bool _,_,h=>h
 | .str _,_,h=>h
 | .slice _ xs,_,h=>by
  obtain⟨a,cap,h1,h2,h3,h4,h5⟩:=h
  refine⟨a,cap,h1,h2,h3,h4,h5.imp id ?_⟩
  rintro⟨b,o,ha,hb,hr⟩
  exact⟨b,o,ha,hS b hb,dr.aM hS hw xs b o hb hr⟩
 | .agg ds,_,h=>dq.aM hS hw ds h
 | .hole,_,h=>h
 | .ptr,_,h=>h
theorem dq.aM{w w':World}{S S':Nat->Prop}(hS:∀ b,S b->S' b)(hw:∀ b,S b->w'.heap[b]?=w.heap[b]?):∀ (ds:List D) {cs:List Value},dq w S ds cs->dq w' S' ds cs
 | [],_,h=>h
 | d::ds,_,h=>by
  obtain⟨v,r,h1,h2,h3⟩:=h
  exact⟨v,r,h1,Rd.aM hS hw d h2,dq.aM hS hw ds h3⟩
theorem dr.aM{w w':World}{S S':Nat->Prop}(hS:∀ b,S b->S' b)(hw:∀ b,S b->w'.heap[b]?=w.heap[b]?):∀ (ds:List D) (b o:Nat),S b->dr w S ds b o->dr w' S' ds b o
 | [],_,_,_,_=>trivial
 | d::ds,b,o,hb,h=>by
  obtain⟨⟨cs,h1,h2,h3⟩,h4⟩:=h
  exact⟨⟨cs,h1,Rd.aM hS hw d h2,h3.aM (hw b hb)⟩,dr.aM hS hw ds b _ hb h4⟩
end
theorem dq.length{w:World}{S:Nat->Prop}:∀ (ds:List D) {cs:List Value},dq w S ds cs->cs.length=ds.length
 | [],_,h=>by rw[show _=[] from h];rfl
 | d::ds,_,h=>by
  obtain⟨v,r,rfl,_,h3⟩:=h
  simp[dq.length ds h3]
theorem Rd.length{w:World}{S:Nat->Prop}(d:D){cs:List Value}(h:Rd w S d cs):cs.length=d.size:=by
 cases d with
 | int k n=>rw[h.1];rfl
 | bool b=>rw[show cs=_ from h];rfl
 | str s=>obtain⟨x,h,_⟩:=h;rw[h];rfl
 | slice n xs=>obtain⟨a,cap,h,_⟩:=h;rw[h];rfl
 | agg ds=>exact dq.length ds h
 | hole=>obtain⟨a,n,m,h⟩:=h;rw[h];rfl
 | ptr=>obtain⟨p,h⟩:=h;rw[h];rfl
theorem Ty.cK(t:Ty)(x:t.den):(t.aK x).size=t.size:=by
 cases t with
 | st s=>simp[Ty.aK,aR.cr,D.size,Ty.size,aR.jT]
 | mv t=>cases (show Option (List t.den) from x)<;>rfl
 | _=>rfl
theorem dr.at_{w:World}{S:Nat->Prop}{n:Nat}:∀ (ds:List D) (b o:Nat),dr w S ds b o->(∀ d∈ds,d.size=n)->∀ i d,ds[i]?=some d ->
  ∃ cs,cs.length=n/\Rd w S d cs/\bP w b (o+i * n) cs
 | [],_,_,_,_,i,d,h=>by simp at h
 | e::ds,b,o,h,hn,0,d,hi=>by
  obtain⟨⟨cs,h1,h2,h3⟩,_⟩:=h
  simp at hi
  subst hi
  exact⟨cs,by rw[h1];exact hn _ (by simp),h2,by simpa using h3⟩
 | e::ds,b,o,h,hn,i+1,d,hi=>by
  obtain⟨_,h4⟩:=h
  rw[hn e (by simp)] at h4
  obtain⟨cs,h1,h2,h3⟩:=dr.at_ ds b (o+n) h4 (λ d hd=>hn d (by simp[hd])) i d (by simpa using hi)
  exact⟨cs,h1,h2,by rw[show o+(i+1) * n=o+n+i * n by rw[a6G];omega];exact h3⟩
theorem dr.WZ{w:World}{S:Nat->Prop}{n:Nat}:∀ (k:Nat) (ds:List D) (b o:Nat),dr w S ds b o->(∀ d∈ds,d.size=n)->dr w S (ds.drop k) b (o+k * n)
 | 0,ds,b,o,h,_=>by simpa using h
 | k+1,[],b,o,h,_=>by simp[dr]
 | k+1,d::ds,b,o,h,hn=>by
  have:=dr.WZ k ds b (o+n) (by have:=h.2;rwa [hn d (by simp)] at this) (λ d hd=>hn d (by simp[hd]))
  rw[show o+(k+1) * n=o+n+k * n by rw[a6G];omega]
  exact this
theorem dr.YN{w:World}{S:Nat->Prop}:∀ (k:Nat) (ds:List D) (b o:Nat),dr w S ds b o->dr w S (ds.take k) b o
 | 0,ds,b,o,h=>by simp[dr]
 | k+1,[],b,o,h=>by simp[dr]
 | k+1,d::ds,b,o,h=>⟨h.1,dr.YN k ds b _ h.2⟩
def dA(w:World)(S:Nat->Prop):List D->List Value->Prop
 | [],l=>l=[]
 | d::ds,l=>∃ c r,l=c++r/\Rd w S d c/\dA w S ds r
theorem dA.aM{w w':World}{S S':Nat->Prop}(hS:∀ b,S b->S' b)(hw:∀ b,S b->w'.heap[b]?=w.heap[b]?):∀ (ds:List D) {l:List Value},dA w S ds l->dA w' S' ds l
 | [],_,h=>h
 | d::ds,_,h=>by
  obtain⟨c,r,h1,h2,h3⟩:=h
  exact⟨c,r,h1,Rd.aM hS hw d h2,dA.aM hS hw ds h3⟩
theorem dA.append{w:World}{S:Nat->Prop}:∀ (ds es:List D) {l m:List Value},dA w S ds l->dA w S es m->dA w S (ds++es) (l++m)
 | [],_,_,_,h,k=>by rw[show _=[] from h];simpa using k
 | d::ds,es,_,m,h,k=>by
  obtain⟨c,r,rfl,h2,h3⟩:=h
  exact⟨c,r++m,by simp,h2,dA.append ds es h3 k⟩
theorem dA.length{w:World}{S:Nat->Prop}{n:Nat}:∀ (ds:List D) {l:List Value},dA w S ds l->(∀ d∈ds,d.size=n)->l.length=ds.length * n
 | [],_,h,_=>by rw[show _=[] from h];simp
 | d::ds,_,h,hn=>by
  obtain⟨c,r,rfl,h2,h3⟩:=h
  rw[a5U,Rd.length d h2,hn d (by simp),dA.length ds h3 (λ d hd=>hn d (by simp[hd])),a5O,a6G]
  omega
theorem dA.row{w:World}{S:Nat->Prop}:∀ (ds:List D) {l:List Value} (b o:Nat),dA w S ds l->bP w b o l->dr w S ds b o
 | [],_,_,_,_,_=>trivial
 | d::ds,_,b,o,h,hc=>by
  obtain⟨c,r,rfl,h2,h3⟩:=h
  refine⟨⟨c,Rd.length d h2,h2,λ j v hj=>hc j v ?_⟩,dA.row ds b _ h3 λ j v hj=>?_⟩
  .rw[a7o]
   .exact hj
   .exact (a5W.1 hj).1
  .have:=hc (c.length+j) v (by rw[List.getElem?_append_right (by omega)];simpa using hj)
   rwa [Rd.length d h2,<-a8z] at this
theorem dr.cells{w:World}{S:Nat->Prop}:∀ (ds:List D) (b o:Nat),dr w S ds b o->∃ l,dA w S ds l/\bP w b o l
 | [],_,_,_=>⟨[],rfl,λ j v h=>by simp at h⟩
 | d::ds,b,o,h=>by
  obtain⟨⟨c,h1,h2,h3⟩,h4⟩:=h
  obtain⟨r,h5,h6⟩:=dr.cells ds b _ h4
  refine⟨c++r,⟨c,r,rfl,h2,h5⟩,λ j v hj=>?_⟩
  rcases a6w j c.length with bF|Qk
  .exact h3 j v (by rwa [a7o bF] at hj)
  .rw[a6V Qk] at hj
   have:=h6 (j - c.length) v hj
   rwa [<-h1,show o+c.length+(j - c.length)=o+j by omega] at this
theorem dA.at_{w:World}{S:Nat->Prop}{n:Nat}:∀ (ds:List D) {l:List Value},dA w S ds l->(∀ d∈ds,d.size=n)->∀ i d,ds[i]?=some d->Rd w S d ((l.drop (i * n)).take n)
 | [],_,_,_,i,d,h=>by simp at h
 | e::ds,_,h,hn,0,d,hi=>by
  obtain⟨c,r,rfl,h2,h3⟩:=h
  simp at hi
  subst hi
  have:c.length=n:=by rw[Rd.length _ h2];exact hn _ (by simp)
  simpa [<-this] using h2
 | e::ds,_,h,hn,i+1,d,hi=>by
  obtain⟨c,r,rfl,h2,h3⟩:=h
  have hc:c.length=n:=by rw[Rd.length _ h2];exact hn _ (by simp)
  have:=dA.at_ ds h3 (λ d hd=>hn d (by simp[hd])) i d (by simpa using hi)
  have h0:List.drop (n+i * n) c=[]:=a7v (by omega)
  rw[show (i+1) * n=n+i * n by rw[a6G];omega,List.drop_append,h0,a6C,show n+i * n - c.length=i * n by omega]
  exact this
def tP:Value->Bool
 | .int .. | .bool _ | .string _ | .slice .. | .pointer _=>true
 | _=>false
def D.leaf:D->Bool
 | .agg _=>false
 | _=>true
theorem Rd.tP{w:World}{S:Nat->Prop}{d:D}(hd:d.leaf=true){cs:List Value}(h:Rd w S d cs):∃ v,cs=[v]/\YtnehkikdlnmebaaGreatDoor.tP v=true:=by
 cases d with
 | int k n=>exact⟨_,h.1,rfl⟩
 | bool b=>exact⟨_,h,rfl⟩
 | str s=>obtain⟨x,h,_⟩:=h;exact⟨_,h,rfl⟩
 | slice n xs=>obtain⟨a,cap,h,_⟩:=h;exact⟨_,h,rfl⟩
 | agg ds=>cases hd
 | hole=>obtain⟨a,n,m,h⟩:=h;exact⟨_,h,rfl⟩
 | ptr=>obtain⟨p,h⟩:=h;exact⟨_,h,rfl⟩
theorem wR{v:Value}(h:YtnehkikdlnmebaaGreatDoor.tP v=true):v.oneCell'=true:=by cases v<;>first|rfl|cases h
theorem HD{v:Value}(h:YtnehkikdlnmebaaGreatDoor.tP v=true):v.cells = #[v]:=by cases v<;>first|rfl|cases h
theorem Jm{α:Type}(n:Nat)(f:α->D)(o:Option (List α)):(ZZ n f o).leaf=true:=by cases o<;>rfl
theorem aR.qk(s:aR)(x:s.den):∀ v∈s.cells x,v.aK.leaf=true:=by
 cases s<;>simp[aR.cells,TV.aK,Ty.aK,D.leaf]<;>exact Jm _ _ _
end Go.Proofs.YtnehkikdlnmebaaGreatDoor

namespace Go.Proofs.YtnehkikdlnmebaaGreatDoor
mutual
def Ow(w:World):D->List Value->List Nat->Prop
 | .int k n,cs,fp=>(cs=[.int k n]/\k.min<=n/\n<=k.max)/\fp=[]
 | .bool b,cs,fp=>cs=[.bool b]/\fp=[]
 | .str s,cs,fp=>(∃ x:ByteArray,cs=[.string x]/\x.data.toList=s/\x.size<=140737488355328)/\fp=[]
 | .slice n xs,cs,fp=>∃ a cap,cs=[.slice a xs.length cap]/\xs.length<=cap/\cap<=maxLen/\xs.length<=140737488355328 /\
   ((xs=[]/\(a=none/\cap=0)/\fp=[])\/∃ b f l t,a=some ⟨b,0,none⟩/\fp=b::f/\w.heap[b]?=some (.cells l.toArray t (0,0))/\l.length=cap * n/\bQ w xs l f)
 | .agg ds,cs,fp=>dy w ds cs fp
 | .hole,cs,fp=>(∃ a n m,cs=[.slice a n m])/\fp=[]
 | .ptr,cs,fp=>(∃ p,cs=[.pointer p])/\fp=[]
def dy(w:World):List D->List Value->List Nat->Prop
 | [],cs,fp=>cs=[]/\fp=[]
 | d::ds,cs,fp=>∃ v r f1 f2,cs=v::r/\fp=f1++f2/\Ow w d [v] f1/\dy w ds r f2
def bQ(w:World):List D->List Value->List Nat->Prop
 | [],_,fp=>fp=[]
 | d::ds,l,fp=>∃ c r f1 f2,l=c++r/\fp=f1++f2/\Ow w d c f1/\bQ w ds r f2
end
theorem dy.length{w:World}:∀ (ds:List D) {cs:List Value} {fp:List Nat},dy w ds cs fp->cs.length=ds.length
 | [],_,_,h=>by rw[h.1];rfl
 | d::ds,_,_,h=>by
  obtain⟨v,r,f1,f2,rfl,_,_,h4⟩:=h
  simp[dy.length ds h4]
theorem Ow.length{w:World}(d:D){cs:List Value}{fp:List Nat}(h:Ow w d cs fp):cs.length=d.size:=by
 cases d with
 | int k n=>rw[h.1.1];rfl
 | bool b=>rw[h.1];rfl
 | str s=>obtain⟨⟨x,h,_⟩,_⟩:=h;rw[h];rfl
 | slice n xs=>obtain⟨a,cap,h,_⟩:=h;rw[h];rfl
 | agg ds=>exact dy.length ds h
 | hole=>obtain⟨⟨a,n,m,h⟩,_⟩:=h;rw[h];rfl
 | ptr=>obtain⟨⟨p,h⟩,_⟩:=h;rw[h];rfl
theorem BC{w:World}{b:Nat}{p c r:List Value}{t:TypeId}(h:w.heap[b]?=some (.cells (p++(c++r)).toArray t (0,0))):bP w b p.length c:=by
 intro j v hj
 have hl:j<c.length:=(a5W.1 hj).1
 have h2:(p++(c++r))[p.length+j]?=some v:=by
  rw[a6V (by omega),a8h,a7o hl];exact hj
 simp[World.cell?,h,h2]
mutual
theorem Ow.rd{w:World}{S:Nat->Prop}:∀ (d:D) {cs:List Value} {fp:List Nat},Ow w d cs fp->(∀ b∈fp,S b)->Rd w S d cs
 | .int _ _,_,_,h,_=>h.1
 | .bool _,_,_,h,_=>h.1
 | .str _,_,_,h,_=>h.1
 | .slice n xs,_,_,h,hS=>by
  obtain⟨a,cap,h1,h2,h3,h4,h5⟩:=h
  refine⟨a,cap,h1,h2,h3,h4,h5.imp And.left ?_⟩
  rintro⟨b,f,l,t,rfl,rfl,hb,_,hr⟩
  exact⟨b,0,rfl,hS b (by simp),bQ.rd xs (p:=[]) (by simpa using hb) hr (λ b hb=>hS b (by simp[hb]))⟩
 | .agg ds,_,_,h,hS=>dy.rd ds h hS
 | .hole,_,_,h,_=>h.1
 | .ptr,_,_,h,_=>h.1
theorem dy.rd{w:World}{S:Nat->Prop}:∀ (ds:List D) {cs:List Value} {fp:List Nat},dy w ds cs fp->(∀ b∈fp,S b)->dq w S ds cs
 | [],_,_,h,_=>h.1
 | d::ds,_,_,h,hS=>by
  obtain⟨v,r,f1,f2,h1,rfl,h3,h4⟩:=h
  exact⟨v,r,h1,Ow.rd d h3 λ b hb=>hS b (by simp[hb]),dy.rd ds h4 λ b hb=>hS b (by simp[hb])⟩
theorem bQ.rd{w:World}{S:Nat->Prop}{b:Nat}{t:TypeId}:∀ (ds:List D) {p l:List Value} {fp:List Nat},w.heap[b]?=some (.cells (p++l).toArray t (0,0))->bQ w ds l fp->(∀ b∈fp,S b)->dr w S ds b p.length
 | [],_,_,_,_,_,_=>trivial
 | d::ds,p,_,_,hb,h,hS=>by
  obtain⟨c,r,f1,f2,rfl,rfl,h3,h4⟩:=h
  have hl:=Ow.length d h3
  refine⟨⟨c,hl,Ow.rd d h3 λ b hb=>hS b (by simp[hb]),BC hb⟩,?_⟩
  have:=bQ.rd ds (p:=p++c) (l:=r) (by simpa using hb) h4 (λ b hb=>hS b (by simp[hb]))
  rw[<-hl]
  simpa using this
end
mutual
theorem Ow.aM{w w':World}:∀ (d:D) {cs:List Value} {fp:List Nat},Ow w d cs fp->(∀ b∈fp,w'.heap[b]?=w.heap[b]?)->Ow w' d cs fp
 | .int _ _,_,_,h,_=>h
 | .bool _,_,_,h,_=>h
 | .str _,_,_,h,_=>h
 | .slice n xs,_,_,h,hw=>by
  obtain⟨a,cap,h1,h2,h3,h4,h5⟩:=h
  refine⟨a,cap,h1,h2,h3,h4,h5.imp id ?_⟩
  rintro⟨b,f,l,t,rfl,rfl,hb,hc,hr⟩
  exact⟨b,f,l,t,rfl,rfl,by rw[hw b (by simp)];exact hb,hc,bQ.aM xs hr λ b hb=>hw b (by simp[hb])⟩
 | .agg ds,_,_,h,hw=>dy.aM ds h hw
 | .hole,_,_,h,_=>h
 | .ptr,_,_,h,_=>h
theorem dy.aM{w w':World}:∀ (ds:List D) {cs:List Value} {fp:List Nat},dy w ds cs fp->(∀ b∈fp,w'.heap[b]?=w.heap[b]?)->dy w' ds cs fp
 | [],_,_,h,_=>h
 | d::ds,_,_,h,hw=>by
  obtain⟨v,r,f1,f2,h1,rfl,h3,h4⟩:=h
  exact⟨v,r,f1,f2,h1,rfl,Ow.aM d h3 λ b hb=>hw b (by simp[hb]),dy.aM ds h4 λ b hb=>hw b (by simp[hb])⟩
theorem bQ.aM{w w':World}:∀ (ds:List D) {l:List Value} {fp:List Nat},bQ w ds l fp->(∀ b∈fp,w'.heap[b]?=w.heap[b]?)->bQ w' ds l fp
 | [],_,_,h,_=>h
 | d::ds,_,_,h,hw=>by
  obtain⟨c,r,f1,f2,h1,rfl,h3,h4⟩:=h
  exact⟨c,r,f1,f2,h1,rfl,Ow.aM d h3 λ b hb=>hw b (by simp[hb]),bQ.aM ds h4 λ b hb=>hw b (by simp[hb])⟩
end
mutual
def D.light:D->Bool
 | .slice .. => false
 | .agg ds=>D.C9 ds
 | _=>true
def D.C9:List D->Bool
 | []=>true
 | d::ds=>d.light&&D.C9 ds
end
mutual
theorem Ow.e9{w:World}{S:Nat->Prop}:∀ (d:D) {cs:List Value},d.light=true->Rd w S d cs->Ow w d cs []
 | .int _ _,_,_,h=>⟨h,rfl⟩
 | .bool _,_,_,h=>⟨h,rfl⟩
 | .str _,_,_,h=>⟨h,rfl⟩
 | .slice n xs,_,hl,h=>by
  obtain⟨a,cap,h1,h2,h3,h4,h5⟩:=h
  cases hl
 | .agg ds,_,hl,h=>dy.e9 ds hl h
 | .hole,_,_,h=>⟨h,rfl⟩
 | .ptr,_,_,h=>⟨h,rfl⟩
theorem dy.e9{w:World}{S:Nat->Prop}:∀ (ds:List D) {cs:List Value},D.C9 ds=true->dq w S ds cs->dy w ds cs []
 | [],_,_,h=>⟨h,rfl⟩
 | d::ds,_,hl,h=>by
  obtain⟨v,r,h1,h2,h3⟩:=h
  simp only[D.C9,a5I] at hl
  exact⟨v,r,[],[],h1,rfl,Ow.e9 d hl.1 h2,dy.e9 ds hl.2 h3⟩
end
theorem bQ.e9{w:World}{S:Nat->Prop}:∀ (ds:List D) {l m:List Value},(∀ d∈ds,d.light=true)->dA w S ds l->bQ w ds (l++m) []
 | [],_,_,_,_=>rfl
 | d::ds,_,m,hl,h=>by
  obtain⟨c,r,rfl,h2,h3⟩:=h
  exact⟨c,r++m,[],[],by simp,rfl,Ow.e9 d (hl d (by simp)) h2,bQ.e9 ds (λ d hd=>hl d (by simp[hd])) h3⟩
theorem Eg{α:Type}(c r:List α)(k:Nat):(c++r).drop (c.length+k)=r.drop k:=by
 rw[<-a8b,a7L]
theorem xD{α:Type}(c r:List α)(k:Nat):(c++r).take (c.length+k)=c++r.take k:=by
 rw[a9i,a6O (by omega),a8h]
theorem bQ.split{w:World}{n:Nat}:∀ (ds:List D) {l:List Value} {fp:List Nat} (i:Nat) (d:D),bQ w ds l fp->(∀ d∈ds,d.size=n)->ds[i]?=some d ->
  ∃ f0 f1 f2,fp=f0++f1++f2/\i * n+n<=l.length/\Ow w d ((l.drop (i * n)).take n) f1 /\
   ∀ (w':World) (d':D) (c':List Value) (ku:List Nat),(∀ b∈f0++f2,w'.heap[b]?=w.heap[b]?)->c'.length=n->Ow w' d' c' ku->bQ w' (ds.set i d') (l.take (i * n)++c'++l.drop (i * n+n)) (f0++ku++f2)
 | [],_,_,_,_,_,_,h=>by simp at h
 | e::ds,l,fp,0,d,h,hn,hi=>by
  obtain⟨c,r,f1,f2,rfl,rfl,h3,h4⟩:=h
  simp at hi
  subst hi
  have hc:c.length=n:=by rw[Ow.length _ h3];exact hn _ (by simp)
  refine⟨[],f1,f2,by simp,by simp;omega,?_,λ w' d' c' ku hw Jb Hp=>?_⟩
  .simp only[a8K,a8c];rw[<-hc,a7M];exact h3
  .simp only[a8K,a8d,a6C,a6X,List.set_cons_zero]
   rw[<-hc,a7L]
   exact⟨c',r,ku,f2,rfl,rfl,Hp,bQ.aM ds h4 λ b hb=>hw b (by simp[hb])⟩
 | e::ds,l,fp,i+1,d,h,hn,hi=>by
  obtain⟨c,r,g1,g2,rfl,rfl,h3,h4⟩:=h
  have hc:c.length=n:=by rw[Ow.length _ h3];exact hn _ (by simp)
  obtain⟨f0,f1,f2,rfl,hlen,k1,k2⟩:=bQ.split ds i d h4 (λ d hd=>hn d (by simp[hd])) (by simpa using hi)
  have e1:(i+1) * n=c.length+i * n:=by rw[hc,a6G];omega
  have e2:(i+1) * n+n=c.length+(i * n+n):=by omega
  refine⟨g1++f0,f1,f2,by simp,by simp;omega,?_,λ w' d' c' ku hw Jb Hp=>?_⟩
  .rw[e1,Eg];exact k1
  .rw[e1,show c.length+i * n+n=c.length+(i * n+n) by omega,xD,Eg]
   have:=k2 w' d' c' ku (λ b hb=>hw b (by simp at hb ⊢;rcases hb with hb|hb<;>simp[hb])) Jb Hp
   rw[show (e::ds).set (i+1) d'=e::ds.set i d' from rfl]
   exact⟨c,r.take (i * n)++c'++r.drop (i * n+n),g1,f0++ku++f2,by simp,by simp,Ow.aM e h3 λ b hb=>hw b (by simp[hb]),this⟩
end Go.Proofs.YtnehkikdlnmebaaGreatDoor

namespace Go.Proofs.YtnehkikdlnmebaaGreatDoor
open Go.MapKept
def ur(τ:Ty)(x:τ.den)(v:Value):Prop:=∀ (w:World) (S:Nat->Prop),Rd w S (τ.aK x) [v]
theorem ur.of{τ:Ty}(kR:τ.key=true){x:τ.den}{v:Value}{w:World}{S:Nat->Prop}(h:Rd w S (τ.aK x) [v]):ur τ x v:=by
 intro w' S'
 cases τ with
 | int k=>exact h
 | bool=>exact h
 | str=>exact h
 | _=>cases kR
theorem ur.val{τ:Ty}(kR:τ.key=true){x y:τ.den}{v:Value}(h:ur τ x v)(k:ur τ y v)(w:World):x=y:=by
 have h:=h w (λ _=>False)
 have k:=k w (λ _=>False)
 cases τ with
 | int q =>
  simp only[Ty.aK,Rd,a5L,a5R] at h k
  obtain⟨rfl,_⟩:=h
  exact (by simpa using k.1)
 | bool =>
  simp only[Ty.aK,Rd,a5L,a5R] at h k
  subst h
  simpa using k
 | str =>
  obtain⟨a,h1,h2,_⟩:=h
  obtain⟨b,k1,k2,_⟩:=k
  simp only[a5L,a5R] at h1 k1
  subst h1
  simp only[Value.string.injEq] at k1
  subst k1
  exact h2.symm.trans k2
 | _=>cases kR
theorem ur.inj{τ:Ty}(kR:τ.key=true){x:τ.den}{v u:Value}(h:ur τ x v)(k:ur τ x u)(w:World):v=u:=by
 have h:=h w (λ _=>False)
 have k:=k w (λ _=>False)
 cases τ with
 | int q =>
  simp only[Ty.aK,Rd,a5L,a5R] at h k
  exact h.1.trans k.1.symm
 | bool =>
  simp only[Ty.aK,Rd,a5L,a5R] at h k
  exact h.trans k.symm
 | str =>
  obtain⟨⟨⟨a⟩⟩,h1,h2,_⟩:=h
  obtain⟨⟨⟨b⟩⟩,k1,k2,_⟩:=k
  simp only[a5L,a5R] at h1 k1
  simp only at h2 k2
  rw[h1,k1,h2,k2]
 | _=>cases kR
def descOf:Ty->TypeDesc
 | .int k => .int k
 | .str => .string
 | _ => .bool
theorem ur.isKey{τ:Ty}(kR:τ.key=true){x:τ.den}{v:Value}(h:ur τ x v)(w:World):IsKey (descOf τ) v:=by
 have h:=h w (λ _=>False)
 cases τ with
 | int q =>
  simp only[Ty.aK,Rd,a5L,a5R] at h
  obtain⟨rfl,_⟩:=h
  rfl
 | bool =>
  simp only[Ty.aK,Rd,a5L,a5R] at h
  subst h
  trivial
 | str =>
  obtain⟨a,h1,h2,_⟩:=h
  simp only[a5L,a5R] at h1
  subst h1
  trivial
 | _=>cases kR
structure Gj(m:MV)(es:Array MapEntry):Prop where
 sk:m.κ.key=true
 se:m.ε.key=true
 len:es.size=m.n
 small:m.n<=1000000000
 nd:es.toList.Pairwise λ x y=>x.key≠y.key
 Za:∀ e∈es.toList,∃ k v,ur m.κ k e.key/\ur m.ε v e.val/\m.f k=some v
 all:∀ k v,m.f k=some v->∃ e∈es.toList,ur m.κ k e.key
section
variable {P:Program} {w:World} {m:MV} {es:Array MapEntry} {clock b:Nat} {T kT eT:TypeId}
theorem Gj.found(h:Gj m es){k:m.κ.den}{v:Value}(hv:ur m.κ k v)(w:World) :
  (Instr.findNow (descOf m.κ) v es.toList 0=some none/\(∀ e∈es.toList,e.key≠v)/\m.f k=none) \/
  ∃ j e x,Instr.findNow (descOf m.κ) v es.toList 0=some (some (j,e.val))/\es.toList[j]?=some e/\e.key=v/\m.f k=some x/\ur m.ε x e.val:=by
 have hk:∀ e∈es.toList,IsKey (descOf m.κ) e.key:=λ e he=>by
  obtain⟨k',v',h1,_⟩:=h.Za e he
  exact h1.isKey h.sk w
 rcases findNow_spec (hv.isKey h.sk w) es.toList 0 hk with ⟨h1,h2⟩|⟨j,e,h1,h2,h3⟩
 .refine .inl ⟨h1,h2,?_⟩
  cases hf:m.f k with
  | none=>rfl
  | some x =>
   obtain⟨e,he,VQ⟩:=h.all k x hf
   exact absurd (VQ.inj h.sk hv w) (h2 e he)
 .obtain⟨k',x,k1,k2,k3⟩:=h.Za e (a6F h2)
  have:k'=k:=k1.val h.sk (h3 ▸ hv) w
  subst this
  exact .inr ⟨j,e,x,by simpa using h1,h2,h3,k3,k2⟩
theorem Gj.ae(h:Gj m es)(hT:P.underlying T=some (.map kT eT))(hk:P.underlying kT=some (descOf m.κ))(hb:w.heap[b]?=some (.map es clock)){z:Value}(hz:(zeroValue eT).run P w = .ok z w)(ZU:ur m.ε m.ε.zero z)
  {k:m.κ.den} {v:Value} (hv:ur m.κ k v) (c:Bool):∃ u,ur m.ε ((m.f k).getD m.ε.zero) u/\(Instr.lookup T (.map (some b)) v c).run P w = .ok (if c then .tuple #[u, .bool (m.f k).isSome] else u) w:=by
 rcases h.found hv w with ⟨h1,h2,h3⟩|⟨j,e,x,h1,h2,h3,h4,h5⟩
 .refine⟨z,by rw[h3];exact ZU,?_⟩
  rw[h3]
  simp[Instr.lookup,a6x hT,a8l hb,run_checkKey hk (hv.isKey h.sk w),run_findKey hk h1,hz,Result.andThen]
 .refine⟨e.val,by rw[h4];exact h5,?_⟩
  rw[h4]
  simp[Instr.lookup,a6x hT,a8l hb,run_checkKey hk (hv.isKey h.sk w),run_findKey hk h1,Result.andThen]
theorem Nv{α β:Type}(f:α->Option β)(k:α)(v:β):EB f k v k=some v:=by simp[EB]
theorem wY{α β:Type}(f:α->Option β)(k:α)(v:β){x:α}(h:x≠k):EB f k v x=f x:=by simp[EB,h]
theorem ED{α:Type}{R:α->α->Prop}{a b:α}:∀ {l:List α} {j:Nat},l.Pairwise R->l[j]?=some a->(∀ x,R a x->R b x)->(∀ x,R x a->R x b)->(l.set j b).Pairwise R
 | [],j,h,hj,h1,h2=>by simp at hj
 | y::ys,0,h,hj,h1,h2=>by
  simp only[a8G,a5E] at hj
  subst hj
  obtain⟨k1,k2⟩:=a8D.1 h
  exact a8D.2 ⟨λ x hx=>h1 x (k1 x hx),k2⟩
 | y::ys,j+1,h,hj,h1,h2=>by
  obtain⟨k1,k2⟩:=a8D.1 h
  simp only[List.getElem?_cons_succ] at hj
  refine a8D.2 ⟨λ x hx=>?_,ED k2 hj h1 h2⟩
  rcases List.mem_or_eq_of_mem_set hx with hx|rfl
  .exact k1 x hx
  .exact h2 y (k1 a (a6F hj))
theorem Gj.store(h:Gj m es)(hT:P.underlying T=some (.map kT eT))(hk:P.underlying kT=some (descOf m.κ))(hb:w.heap[b]?=some (.map es clock))
  {k:m.κ.den} {v:Value} (hv:ur m.κ k v) {x:m.ε.den} {u:Value} (hu:ur m.ε x u) (hn:m.n<1000000000) :
  ∃ W0 LH,(Instr.mapUpdate T (.map (some b)) v u).run P w = .ok () { w with heap:=w.heap.setIfInBounds b (.map W0 LH) }/\Gj ⟨m.κ,m.ε,EB m.f k x,KF (m.f k) m.n⟩ W0:=by
 have hK:=hv.isKey h.sk w
 rcases h.found hv w with ⟨h1,h2,h3⟩|⟨j,e,y,h1,h2,h3,h4,h5⟩
 .refine⟨es.push ⟨v,u,clock⟩,clock+1,?_,?_⟩
  .simp[Instr.mapUpdate,a6x hT,a8l hb,run_checkKey hk hK,run_findKey hk h1,run_setObj_map _ hb,Result.andThen]
  .refine⟨h.sk,h.se,?_,by simp[KF,h3];omega,?_,?_,?_⟩
   .simp[KF,h3,h.len]
   .simp only[a9b]
    refine List.pairwise_append.2 ⟨h.nd,by simp,λ a ha b' cw=>?_⟩
    simp only[a6t] at cw
    subst cw
    exact h2 a ha
   .intro e he
    simp only[a9b,a5G,a6t] at he
    rcases he with he|rfl
    .obtain⟨k',v',k1,k2,k3⟩:=h.Za e he
     refine⟨k',v',k1,k2,?_⟩
     show EB m.f k x k'=some v'
     rw[wY _ _ _ (λ e1=>h2 e he ((e1 ▸ k1).inj h.sk hv w))]
     exact k3
    .exact⟨k,x,hv,hu,Nv _ _ _⟩
   .intro k' v' hf
    by_cases VS:k'=k
    .exact⟨⟨v,u,clock⟩,by simp,by rw[VS];exact hv⟩
    .have hf':m.f k'=some v':=by rw[<-wY m.f k x VS];exact hf
     obtain⟨e,he,VQ⟩:=h.all k' v' hf'
     exact⟨e,by simp only[a9b,a5G];exact .inl he,VQ⟩
 .have hj:es[j]?=some e:=by simpa using h2
  have Ql:(es.modify j (λ e'=>{ e' with key:=v,val:=u })).toList=es.toList.set j { e with key:=v,val:=u }:=by
   rw[Array.toList_modify]
   apply a9c
   intro i
   simp only[List.getElem?_modify,List.getElem?_set]
   by_cases yh:j=i
   .subst yh
    have hl:=(a5W.1 h2).1
    simp only[a5T,a5T hl]
    rw[h2]
    rfl
   .simp[yh]
  refine⟨es.modify j (λ e'=>{ e' with key:=v,val:=u }),clock,?_,?_⟩
  .simp[Instr.mapUpdate,a6x hT,a8l hb,run_checkKey hk hK,run_findKey hk h1,hj,h3,run_keyThatStays hK,run_setObj_map _ hb,Result.andThen]
  .have oth:∀ x'∈es.toList.set j { e with key:=v,val:=u },x'={ e with key:=v,val:=u }\/(x'∈es.toList/\x'.key≠v):=by
    intro x' hx
    obtain⟨i,hi,ex⟩:=a7p hx
    rw[List.getElem_set] at ex
    split at ex
    .exact .inl ex.symm
    .rename_i dU
     have oj:i<es.toList.length:=by simpa using hi
     refine .inr ⟨ex ▸ a8r oj,λ Ub=>?_⟩
     have ZF:j<es.toList.length:=(a5W.1 h2).1
     have ZE:es.toList[j]=e:=(a5W.1 h2).2
     have hpw:=List.pairwise_iff_getElem.1 h.nd
     rcases Nat.lt_or_gt_of_ne dU with hl|hl
     .exact hpw j i ZF oj hl (by rw[ZE,ex,h3,Ub])
     .exact hpw i j oj ZF hl (by rw[ZE,ex,h3,Ub])
   refine⟨h.sk,h.se,?_,by simp[KF,h4];omega,?_,?_,?_⟩
   .simp[KF,h4,h.len]
   .rw[Ql]
    exact ED h.nd h2 (λ x' hx=>by rw[<-h3];exact hx) (λ x' hx=>by rw[<-h3];exact hx)
   .intro e' yg
    rw[Ql] at yg
    rcases oth e' yg with rfl|⟨he,dU⟩
    .exact⟨k,x,hv,hu,Nv _ _ _⟩
    .obtain⟨k',v',k1,k2,k3⟩:=h.Za e' he
     refine⟨k',v',k1,k2,?_⟩
     show EB m.f k x k'=some v'
     rw[wY _ _ _ (λ e1=>dU ((e1 ▸ k1).inj h.sk hv w))]
     exact k3
   .intro k' v' hf
    by_cases VS:k'=k
    .refine⟨{ e with key:=v,val:=u },?_,(show k'=k from VS).symm ▸ hv⟩
     rw[Ql]
     exact List.mem_iff_getElem.2 ⟨j,by simpa using (List.getElem?_eq_some_iff.1 h2).1,by simp⟩
    .have hf':m.f k'=some v':=by rw[<-wY m.f k x VS];exact hf
     obtain⟨e',yg,VQ⟩:=h.all k' v' hf'
     refine⟨e',?_,VQ⟩
     rw[Ql]
     obtain⟨i,hi,ex⟩:=a7p yg
     have yh:j≠i:=by
      intro e1
      subst e1
      have ZE:es.toList[j]=e:=(a5W.1 h2).2
      have:e'=e:=ex ▸ ZE
      subst this
      exact VS ((h3 ▸ VQ).val h.sk hv w)
     exact List.mem_iff_getElem.2 ⟨i,by simpa using hi,by rw[List.getElem_set_ne yh];exact ex⟩
end
end Go.Proofs.YtnehkikdlnmebaaGreatDoor

namespace Go.Proofs.YtnehkikdlnmebaaGreatDoor
def aN{α β:Type}(R:α->β->Prop):List α->List β->Prop
 | [],[]=>True
 | a::Z9,b::bs=>R a b/\aN R Z9 bs
 | _,_=>False
theorem aN.length{α β:Type}{R:α->β->Prop}:∀ {Z9:List α} {bs:List β},aN R Z9 bs->Z9.length=bs.length
 | [],[],_=>rfl
 | _::_,_::_,h=>by simp[aN.length h.2]
 | [],_::_,h=>h.elim
 | _::_,[],h=>h.elim
theorem aN.imp{α β:Type}{R R':α->β->Prop}:∀ {Z9:List α} {bs:List β},aN R Z9 bs->(∀ a b,a∈Z9->R a b->R' a b)->aN R' Z9 bs
 | [],[],_,_=>trivial
 | _::_,_::_,h,k=>⟨k _ _ (by simp) h.1,aN.imp h.2 λ a b ha=>k a b (by simp[ha])⟩
 | [],_::_,h,_=>h.elim
 | _::_,[],h,_=>h.elim
theorem aN.at_{α β:Type}{R:α->β->Prop}:∀ {Z9:List α} {bs:List β},aN R Z9 bs->∀ (i:Nat) a,Z9[i]?=some a->∃ b,bs[i]?=some b/\R a b
 | [],[],_,i,a,h=>by simp at h
 | _::_,b::_,h,0,a,hi=>by simp at hi;subst hi;exact⟨b,rfl,h.1⟩
 | _::_,_::_,h,i+1,a,hi=>by simpa using aN.at_ h.2 i a (by simpa using hi)
 | [],_::_,h,_,_,_=>h.elim
 | _::_,[],h,_,_,_=>h.elim
theorem aN.append{α β:Type}{R:α->β->Prop}:∀ {Z9:List α} {bs:List β} {as' bs'},aN R Z9 bs->aN R as' bs'->aN R (Z9++as') (bs++bs')
 | [],[],_,_,_,k=>k
 | _::_,_::_,_,_,h,k=>⟨h.1,aN.append h.2 k⟩
 | [],_::_,_,_,h,_=>h.elim
 | _::_,[],_,_,h,_=>h.elim
theorem aN.take{α β:Type}{R:α->β->Prop}(n:Nat):∀ {Z9:List α} {bs:List β},aN R Z9 bs->aN R (Z9.take n) (bs.take n):=by
 induction n with
 | zero=>intro Z9 bs _;simp[aN]
 | succ n ih =>
  intro Z9 bs h
  match Z9,bs,h with
  | [],[],_=>simp[aN]
  | _::_,_::_,h=>exact⟨h.1,ih h.2⟩
theorem aN.drop{α β:Type}{R:α->β->Prop}(n:Nat):∀ {Z9:List α} {bs:List β},aN R Z9 bs->aN R (Z9.drop n) (bs.drop n):=by
 induction n with
 | zero=>intro Z9 bs h;simpa using h
 | succ n ih =>
  intro Z9 bs h
  match Z9,bs,h with
  | [],[],_=>simp[aN]
  | _::_,_::_,h=>exact ih h.2
theorem aN.eB{α β γ:Type}{R:γ->β->Prop}(f:α->γ):∀ {Z9:List α} {bs:List β},aN (λ a b=>R (f a) b) Z9 bs->aN R (Z9.map f) bs
 | [],[],_=>trivial
 | _::_,_::_,h=>⟨h.1,aN.eB f h.2⟩
 | [],_::_,h=>h.elim
 | _::_,[],h=>h.elim
theorem aN.of_map{α β γ:Type}{R:γ->β->Prop}(f:α->γ):∀ {Z9:List α} {bs:List β},aN R (Z9.map f) bs->aN (λ a b=>R (f a) b) Z9 bs
 | [],[],_=>trivial
 | _::_,_::_,h=>⟨h.1,aN.of_map f h.2⟩
 | [],_::_,h=>h.elim
 | _::_,[],h=>h.elim
theorem dq.vU{w:World}{S:Nat->Prop}:∀ {vs:List TV} {cs:List Value},dq w S (vs.map TV.aK) cs↔aN (λ v x=>Rd w S v.aK [x]) vs cs
 | [],[]=>by simp[dq,aN]
 | [],_::_=>by simp[dq,aN]
 | v::vs,[]=>by simp[dq,aN]
 | v::vs,x::cs=>by
  simp only[a6n,dq,aN]
  constructor
  .rintro⟨y,r,h1,h2,h3⟩
   simp only[a5L] at h1
   obtain⟨rfl,rfl⟩:=h1
   exact⟨h2,dq.vU.1 h3⟩
  .rintro⟨h1,h2⟩
   exact⟨x,cs,rfl,h1,dq.vU.2 h2⟩
structure bX(X:Nat->Prop)(w w':World):Prop where
 os:w'.os=w.os
 tape:w'.tape=w.tape
 output:w'.output=w.output
 size:w.heap.size<=w'.heap.size
 block:∀ b,b<w.heap.size->¬ X b->w'.heap[b]?=w.heap[b]?
theorem bX.refl(X:Nat->Prop)(w:World):bX X w w:=⟨rfl,rfl,rfl,a6b _,λ _ _ _=>rfl⟩
theorem bX.trans{X Y:Nat->Prop}{a b c:World}(h:bX X a b)(k:bX Y b c)(hXY:∀ i,i<a.heap.size->Y i->X i):bX X a c :=
 ⟨k.os.trans h.os,k.tape.trans h.tape,k.output.trans h.output,a7T h.size k.size,
  λ i hi hx=>(k.block i (a5Q hi h.size) (λ hy=>hx (hXY i hi hy))).trans (h.block i hi hx)⟩
structure Ctx where
 P:Program
 E:Env
 w0:World
 X:Nat->Prop
 S0:Nat->Prop
 R:Nat->Option Value
 Z:Nat->Prop
 RB:Nat->Option Nat
structure Gh where
 S:Nat->Prop
 η:Nat->Value
 φ:Nat->List Nat
def St(c:Ctx)(S:Nat->Prop)(b:Nat):Prop:=S b\/(b<c.w0.heap.size/\¬ c.X b/\¬ c.Z b)
def dS:Value->Option Nat
 | .pointer (some a)=>some a.block
 | .slice (some a) _ _=>some a.block
 | .map (some b)=>some b
 | _=>none
def eI(w:World)(S:Nat->Prop)(v:TV)(x:Value):Prop :=
 match v with
 | ⟨.st s,y⟩=>∃ cs,x = .agg cs.toArray/\Rd w S (s.aK y) cs
 | v=>Rd w S v.aK [x]
def EL(w:World)(S:Nat->Prop):Arg->Value->Prop
 | .val v,x=>eI w S v x
 | .ref v,x=>∃ b o cs,x = .pointer (some ⟨b,o,none⟩)/\b<w.heap.size/\bP w b o cs/\Rd w S v.aK cs
 | .fn f,x=>x = .func (.func f) #[] #[]
 | .di _,_=>False
 | .own _,_=>False
 | .box _,_=>False
def D5(w:World)(S:Nat->Prop):List TV->Value->Prop
 | [v],x=>eI w S v x
 | vs,x=>∃ l,x = .tuple l.toArray/\aN (eI w S) vs l
def WB(w:World)(S:Nat->Prop):Prop:=∀ g∈TJ,S g/\∃ m,w.cell? ⟨g,0,none⟩=some (.int .i64 m)
def oE(w:World)(S:Nat->Prop):Prop:=(∀ b,S b->b<w.heap.size)/\WB w S
theorem WB.mono{w w':World}{S S':Nat->Prop}(h:WB w S)(hS:∀ b,S b->S' b)(hw:∀ b,S b->w'.heap[b]?=w.heap[b]?):WB w' S':=λ g hg=>by
 obtain⟨h1,m,h2⟩:=h g hg
 exact⟨hS g h1,m,(a8q (a:=⟨g,0,none⟩) (hw g h1)).trans h2⟩
def Gk(P:Program)(f:FuncId)(args:List Arg)(post:List TV->Prop):Prop :=
 ∀ (w:World) (S:Nat->Prop) (cF:List Value),oE w S->aN (EL w S) args cF ->
  Calls P f cF.toArray w λ e w'=>∃ x S' res,e = .returned x/\post res/\bX (λ _=>False) w w'/\(∀ b,b<w.heap.size->(S' b↔S b))/\(∀ b,S' b->b<w'.heap.size)/\D5 w' S' res x
def oC (P:Program) (f:FuncId):Prop:=∃ fn,P.funcs[f]?=some fn/\fn.body.isNone=false/\(fn.name == "runtime.NumGoroutine")=false
def CX(P:Program)(f:FuncId)(gK:List Arg):(ps:List Ty)->(r:Ty)->FN ps r->List Arg->Prop
 | [],r,F,acc=>F.1->oC P f/\Gk P f (acc++gK) (·=[⟨r,F.2⟩])
 | t::ts,r,F,acc=>∀ x,CX P f gK ts r (F x) (acc++[.val ⟨t,x⟩])
def LX(c:Ctx)(S:Nat->Prop)(w:World):Arg->Value->Prop
 | .val v,x=>eI w S v x
 | .ref v,x=>∃ b o cs,x = .pointer (some ⟨b,o,none⟩)/\St c S b/\bP w b o cs/\Rd w S v.aK cs
 | .fn f,x=>x = .func (.func f) #[] #[]
 | .di _,_=>False
 | .own _,_=>False
 | .box _,_=>False
def C1(c:Ctx)(G:Gh)(lk:Nat->Option av)(w:World):AV->Value->Prop
 | .any,_=>True
 | .eC,x=>x=undef
 | .aS v,x=>v.τ.agg=false/\Rd w G.S v.aK [x]
 | .nil,x=>x = .slice none 0 0
 | .fX v,x=>∃ b o cs,x = .pointer (some ⟨b,o,none⟩)/\St c G.S b/\bP w b o cs/\Rd w G.S v.aK cs
 | .ptr id off,x=>∃ b,G.η id = .pointer (some ⟨b,0,none⟩)/\x = .pointer (some ⟨b,off,none⟩)/\gG (lk id)=true
 | .row id,x=>x=G.η id/\isRow (lk id)=true/\∃ a n m,x = .slice a n m
 | .ei id i off,x=>∃ b n cap e τ xs,G.η id = .slice (some ⟨b,0,none⟩) n cap/\lk id=some (.row e τ xs)/\i<xs.length/\x = .pointer (some ⟨b,i * τ.size+off,none⟩)
 | .fn f,x=>x = .func (.func f) #[] #[]
 | .aB id,x=>df (lk id)=true/\∃ l,G.η id = .tuple (x::l).toArray/\∃ a n m,x = .slice a n m
 | .sub id i off sz,x=>df (lk id)=true/\∃ a n cap l,G.η id = .tuple (.slice a n cap::l).toArray/\i<n/\l[i * sz+off]?=some x/\∃ a n m,x = .slice a n m
 | .eH id i off sz,x=>df (lk id)=true/\∃ b n cap l,G.η id = .tuple (.slice (some ⟨b,0,none⟩) n cap::l).toArray/\i<n/\x = .pointer (some ⟨b,i * sz+off,none⟩)
 | .jE v,x=>∃ f gK l,x = .func (.func f) #[] l.toArray/\CX c.P f gK v.ps v.r v.F []/\aN (LX c G.S w) gK l
 | .mp id,x=>x=G.η id/\FG (lk id)=true/\∃ b,x = .map (some b)
 | .agg _,_=>False
 | .j8 _,_=>False
 | .di ..,_=>False
def TR(c:Ctx)(G:Gh)(lk:Nat->Option av)(w:World):AV->Value->Prop
 | .any,_=>True
 | .aS v,x=>eI w G.S v x
 | .aB id,x=>C1 c G lk w (.aB id) x
 | .agg cs,x=>∃ l,x = .agg l.toArray/\aN (C1 c G lk w) cs l
 | _,_=>False
def CR(c:Ctx)(G:Gh)(lk:Nat->Option av)(w:World):AV->Value->Prop
 | .aS v,x=>eI w G.S v x
 | .agg cs,x=>∃ l,x = .agg l.toArray/\aN (C1 c G lk w) cs l
 | v,x=>C1 c G lk w v x
def VR(c:Ctx)(G:Gh)(lk:Nat->Option av)(w:World):AV->Value->Prop
 | .aS v,x=>eI w G.S v x
 | .agg cs,x=>∃ l,x = .agg l.toArray/\aN (C1 c G lk w) cs l
 | .j8 vs,x=>∃ l,x = .tuple l.toArray/\aN (TR c G lk w) vs l
 | .di f cs,x=>∃ l,x = .func (.func f) #[] l.toArray/\aN (CR c G lk w) cs l
 | v,x=>C1 c G lk w v x
def OR(c:Ctx)(G:Gh)(lk:Nat->Option av)(w:World)(id:Nat):av->Prop
 | .box cs=>∃ b l t,G.η id = .pointer (some ⟨b,0,none⟩)/\w.heap[b]?=some (.cells l.toArray t (0,0))/\aN (C1 c G lk w) cs l
 | .row e τ xs=>∃ l,w.ownsRow 0 e τ.size (G.η id) xs.length l/\dA w G.S (xs.map τ.aK) l/\xs.length<=140737488355328
 | .aB τ xs=>True
 | .map m=>∃ b es clock,G.η id = .map (some b)/\w.heap[b]?=some (.map es clock)/\Gj m es
def km(w:World)(η:Value)(τ:Ty)(xs:List τ.den)(fp:List Nat):Prop :=
 ∃ v l a cap,η = .tuple (v::l).toArray/\v = .slice a xs.length cap/\xs.length<=cap/\cap<=maxLen/\xs.length<=140737488355328 /\
  ((xs=[]/\(a=none/\cap=0)/\fp=[])\/∃ b f t,a=some ⟨b,0,none⟩/\fp=b::f/\w.heap[b]?=some (.cells l.toArray t (0,0))/\l.length=cap * τ.size/\bQ w (xs.map τ.aK) l f)
structure EP(c:Ctx)(G:Gh)(lk:Nat->Option av)(w:World):Prop where
 tr:∀ id τ xs,lk id=some (.aB τ xs)->km w (G.η id) τ xs (G.φ id)
 nd:∀ id τ xs,lk id=some (.aB τ xs)->(G.φ id).Nodup
 pl:∀ id τ xs b,lk id=some (.aB τ xs)->b∈G.φ id->(c.w0.heap.size<=b\/c.X b)/\¬ G.S b/\b<w.heap.size/\∀ i o,lk i=some o->dS (G.η i)≠some b
 ap:∀ id dD τ aZ xs cX b,lk id=some (.aB τ xs)->lk dD=some (.aB aZ cX)->b∈G.φ id->b∈G.φ dD->id=dD
def XGk(c:Ctx):Prop:=(∀ b,c.X b->b<c.w0.heap.size)/\∀ g∈TJ,c.S0 g/\¬ c.X g/\g<c.w0.heap.size/\∃ m,c.w0.cell? ⟨g,0,none⟩=some (.int .i64 m)
structure bn(c:Ctx)(G:Gh)(sl:Nat->AV)(n:Nat)(lk:Nat->Option av)(a:Act)(w:World):Prop where
 defers:a.defers=[]
 size:a.tmps.size=n
 aM:bX c.X c.w0 w
 mO:XGk c
 eF:∀ b,b<c.w0.heap.size->¬ c.X b->(G.S b↔c.S0 b)
 sX:∀ b,c.S0 b->G.S b
 dX:∀ b,G.S b->b<w.heap.size
 aw:∀ i,VR c G lk w (sl i) (a.tmps.getD i undef)
 aH:∀ id o,lk id=some o->OR c G lk w id o
 place:∀ id o b,lk id=some o->dS (G.η id)=some b->(c.w0.heap.size<=b\/c.X b)/\¬ G.S b/\b<w.heap.size
 apart:∀ id dD o o' b,lk id=some o->lk dD=some o'->dS (G.η id)=some b->dS (G.η dD)=some b->id=dD
 aT:EP c G lk w
 root:∀ id v,c.R id=some v->df (lk id)=true->∃ l,G.η id = .tuple (v::l).toArray
 ka:∀ id v,c.R id=some v->50<=id/\id<100
 dF:∀ id b,c.RB id=some b->gG (lk id)=true->G.η id = .pointer (some ⟨b,0,none⟩)
 fJ:∀ id b,c.RB id=some b->400000<=id
theorem bn.Wk{c:Ctx}{G:Gh}{sl:Nat->AV}{n:Nat}{lk:Nat->Option av}{a:Act}{w:World}(h:bn c G sl n lk a w):oE w G.S:=⟨h.dX,λ g hg=>by
 obtain⟨h1,h2,h3,m,h4⟩:=h.mO.2 g hg
 exact⟨h.sX g h1,m,(a8q (a:=⟨g,0,none⟩) (h.aM.block g h3 h2)).trans h4⟩⟩
def af.sl(s:af)(i:Nat):AV:=s.aw.getD i .any
def Inv(c:Ctx)(G:Gh)(s:af)(a:Act)(w:World):Prop:=bn c G s.sl s.aw.length s.ae a w
theorem sJ{o:Option av}(h:isRow o=true):df o=false:=by
 match o,h with
 | some (.row ..),_=>rfl
theorem EA{o:Option av}(h:FG o=true):df o=false:=by
 match o,h with
 | some (.map _),_=>rfl
def er(o o':Option av):Prop :=
 (gG o=true->gG o'=true)/\(∀ e τ xs,o=some (.row e τ xs)->∃ e' cX,o'=some (.row e' τ cX)/\xs.length<=cX.length)/\(df o=true->df o'=true)/\(FG o=true->FG o'=true)
theorem er.refl(o:Option av):er o o:=⟨id,λ e τ xs h=>⟨e,xs,h,a6b _⟩,id,id⟩
theorem er.isRow{o o':Option av}(h:er o o')(hr:isRow o=true):YtnehkikdlnmebaaGreatDoor.isRow o'=true:=by
 match o,hr with
 | some (.row e τ xs),_ =>
  obtain⟨e',cX,h1,_⟩:=h.2.1 e τ xs rfl
  rw[h1];rfl
section
variable {c:Ctx} {G G':Gh} {lk lk':Nat->Option av} {w w':World}
theorem eI.mono{v:TV}{x:Value}(h:eI w G.S v x)(hS:∀ b,G.S b->G'.S b)(hw:∀ b,G.S b->w'.heap[b]?=w.heap[b]?):eI w' G'.S v x:=by
 obtain⟨τ,y⟩:=v
 cases τ with
 | st s =>
  obtain⟨cs,h1,h2⟩:=h
  exact⟨cs,h1,Rd.aM hS hw _ h2⟩
 | _=>exact Rd.aM hS hw _ h
theorem LX.mono{S S':Nat->Prop}{v:Arg}{x:Value}(h:LX c S w v x)(hS:∀ b,S b->S' b)(hw:∀ b,St c S b->w'.heap[b]?=w.heap[b]?):LX c S' w' v x:=by
 cases v with
 | val v=>exact eI.mono (G:=⟨S,λ _=>undef,λ _=>[]⟩) (G':=⟨S',λ _=>undef,λ _=>[]⟩) h hS (λ b hb=>hw b (.inl hb))
 | ref v =>
  obtain⟨b,o,cs,h1,h2,h3,h4⟩:=h
  exact⟨b,o,cs,h1,h2.imp (hS b) id,h3.aM (hw b h2),Rd.aM hS (λ b hb=>hw b (.inl hb)) _ h4⟩
 | fn f=>exact h
 | di v=>exact h
 | own v=>exact h
 | box k=>exact h
theorem C1.mono{v:AV}{x:Value}(h:C1 c G lk w v x)(hk:∀ id,v.refs id=true->er (lk id) (lk' id)/\G'.η id=G.η id)
  (hS:∀ b,G.S b->G'.S b) (hw:∀ b,St c G.S b->w'.heap[b]?=w.heap[b]?):C1 c G' lk' w' v x:=by
 have Ua:∀ b,G.S b->w'.heap[b]?=w.heap[b]?:=λ b hb=>hw b (.inl hb)
 cases v with
 | any=>trivial
 | eC=>exact h
 | aS v=>exact⟨h.1,Rd.aM hS Ua _ h.2⟩
 | nil=>exact h
 | fX v =>
  obtain⟨b,o,cs,h1,h2,h3,h4⟩:=h
  exact⟨b,o,cs,h1,h2.imp (hS b) id,h3.aM (hw b h2),Rd.aM hS Ua _ h4⟩
 | ptr id off =>
  obtain⟨b,h1,h2,h3⟩:=h
  obtain⟨k1,k2⟩:=hk id (by simp[AV.refs])
  exact⟨b,k2.trans h1,h2,k1.1 h3⟩
 | row id =>
  obtain⟨h1,h2,h3⟩:=h
  obtain⟨k1,k2⟩:=hk id (by simp[AV.refs])
  exact⟨h1.trans k2.symm,k1.isRow h2,h3⟩
 | ei id i off =>
  obtain⟨b,n,cap,e,τ,xs,h1,h2,h3,h4⟩:=h
  obtain⟨k1,k2⟩:=hk id (by simp[AV.refs])
  obtain⟨e',cX,k3,k4⟩:=k1.2.1 e τ xs h2
  exact⟨b,n,cap,e',τ,cX,k2.trans h1,k3,by omega,h4⟩
 | fn f=>exact h
 | aB id =>
  obtain⟨h1,l,h2,h3⟩:=h
  obtain⟨k1,k2⟩:=hk id (by simp[AV.refs])
  exact⟨k1.2.2.1 h1,l,k2.trans h2,h3⟩
 | sub id i off sz =>
  obtain⟨h1,a,n,cap,l,h2,h3⟩:=h
  obtain⟨k1,k2⟩:=hk id (by simp[AV.refs])
  exact⟨k1.2.2.1 h1,a,n,cap,l,k2.trans h2,h3⟩
 | eH id i off sz =>
  obtain⟨h1,b,n,cap,l,h2,h3⟩:=h
  obtain⟨k1,k2⟩:=hk id (by simp[AV.refs])
  exact⟨k1.2.2.1 h1,b,n,cap,l,k2.trans h2,h3⟩
 | jE v =>
  obtain⟨f,gK,l,h1,h2,h3⟩:=h
  exact⟨f,gK,l,h1,h2,h3.imp λ u y _ hy=>hy.mono hS hw⟩
 | mp id =>
  obtain⟨h1,h2,h3⟩:=h
  obtain⟨k1,k2⟩:=hk id (by simp[AV.refs])
  exact⟨h1.trans k2.symm,k1.2.2.2 h2,h3⟩
 | agg cs=>exact h
 | j8 vs=>exact h
 | di f cs=>exact h
theorem nK{id:Nat}:∀ {cs:List AV} {v:AV},v∈cs->v.refs id=true->AV.gI id cs=true
 | u::r,v,hm,hv=>by
  simp only[AV.gI]
  rcases a5P.1 hm with rfl|h
  .rw[hv]
  .split
   .rfl
   .exact nK h hv
theorem CR.mono{v:AV}{x:Value}(h:CR c G lk w v x)(hk:∀ id,v.refs id=true->er (lk id) (lk' id)/\G'.η id=G.η id)
  (hS:∀ b,G.S b->G'.S b) (hw:∀ b,St c G.S b->w'.heap[b]?=w.heap[b]?):CR c G' lk' w' v x:=by
 cases v with
 | aS v=>exact eI.mono h hS (λ b hb=>hw b (.inl hb))
 | agg cs =>
  obtain⟨l,h1,h2⟩:=h
  exact⟨l,h1,h2.imp λ u y hu hy=>hy.mono (λ id aW=>hk id (by simp only[AV.refs];exact nK hu aW)) hS hw⟩
 | any=>trivial
 | eC=>exact h
 | nil=>exact C1.mono (v := .nil) h hk hS hw
 | fX v=>exact C1.mono (v := .fX v) h hk hS hw
 | ptr i o=>exact C1.mono (v := .ptr i o) h hk hS hw
 | row i=>exact C1.mono (v := .row i) h hk hS hw
 | ei i k o=>exact C1.mono (v := .ei i k o) h hk hS hw
 | fn f=>exact C1.mono (v := .fn f) h hk hS hw
 | aB i=>exact C1.mono (v := .aB i) h hk hS hw
 | sub i k o z=>exact C1.mono (v := .sub i k o z) h hk hS hw
 | eH i k o z=>exact C1.mono (v := .eH i k o z) h hk hS hw
 | jE v=>exact C1.mono (v := .jE v) h hk hS hw
 | mp i=>exact C1.mono (v := .mp i) h hk hS hw
 | j8 _=>exact h
 | di _ _=>exact h
theorem VR.mono{v:AV}{x:Value}(h:VR c G lk w v x)(hk:∀ id,v.refs id=true->er (lk id) (lk' id)/\G'.η id=G.η id)
  (hS:∀ b,G.S b->G'.S b) (hw:∀ b,St c G.S b->w'.heap[b]?=w.heap[b]?):VR c G' lk' w' v x:=by
 have Ua:∀ b,G.S b->w'.heap[b]?=w.heap[b]?:=λ b hb=>hw b (.inl hb)
 cases v with
 | aS v=>exact eI.mono h hS Ua
 | agg cs =>
  obtain⟨l,h1,h2⟩:=h
  exact⟨l,h1,h2.imp λ u y hu hy=>hy.mono (λ id aW=>hk id (by simp only[AV.refs];exact nK hu aW)) hS hw⟩
 | j8 vs =>
  obtain⟨l,h1,h2⟩:=h
  refine⟨l,h1,h2.imp λ u y hu hy=>?_⟩
  have iR:∀ id,u.refs id=true->er (lk id) (lk' id)/\G'.η id=G.η id:=λ id aW=>hk id (by simp only[AV.refs];exact nK hu aW)
  cases u with
  | any=>trivial
  | aS v=>exact eI.mono hy hS Ua
  | aB i=>exact C1.mono (v := .aB i) hy iR hS hw
  | agg cs =>
   obtain⟨l,h1,h2⟩:=hy
   exact⟨l,h1,h2.imp λ u y hu hy=>hy.mono (λ id aW=>iR id (by simp only[AV.refs];exact nK hu aW)) hS hw⟩
  | _=>exact hy.elim
 | eC=>trivial
 | any=>trivial
 | nil=>exact C1.mono (v := .nil) h hk hS hw
 | fX v=>exact C1.mono (v := .fX v) h hk hS hw
 | ptr i o=>exact C1.mono (v := .ptr i o) h hk hS hw
 | row i=>exact C1.mono (v := .row i) h hk hS hw
 | ei i k o=>exact C1.mono (v := .ei i k o) h hk hS hw
 | fn f=>exact C1.mono (v := .fn f) h hk hS hw
 | aB i=>exact C1.mono (v := .aB i) h hk hS hw
 | sub i k o z=>exact C1.mono (v := .sub i k o z) h hk hS hw
 | eH i k o z=>exact C1.mono (v := .eH i k o z) h hk hS hw
 | jE v=>exact C1.mono (v := .jE v) h hk hS hw
 | mp i=>exact C1.mono (v := .mp i) h hk hS hw
 | di f cs =>
  obtain⟨l,h1,h2⟩:=h
  exact⟨l,h1,h2.imp λ u y hu hy=>hy.mono (λ id aW=>hk id (by simp only[AV.refs];exact nK hu aW)) hS hw⟩
def av.refs(id:Nat):av->Bool
 | .box cs=>AV.gI id cs
 | .row .. => false
 | .aB .. => false
 | .map .. => false
theorem sw{v:Value}{e:TypeId}{size n:Nat}{l:List Value}(h:w.ownsRow 0 e size v n l):v.ownBlock=dS v:=by
 rcases h.2 with ⟨rfl,_⟩|⟨g,cap,cur,rfl,_⟩<;>rfl
theorem EC{e:TypeId}{size n:Nat}{v:Value}{l:List Value}(h:w.ownsRow 0 e size v n l)(hb:∀ b,dS v=some b->w'.heap[b]?=w.heap[b]?):w'.ownsRow 0 e size v n l:=by
 refine⟨h.1,h.2.imp id ?_⟩
 rintro⟨g,cap,cur,rfl,h1,h2,h3⟩
 exact⟨g,cap,cur,rfl,h1,by rw[hb g rfl];exact h2,h3⟩
theorem OR.mono{id:Nat}{o:av}(h:OR c G lk w id o)(gQ:G'.η id=G.η id)(hb:∀ b,dS (G.η id)=some b->w'.heap[b]?=w.heap[b]?)
  (hk:∀ j,o.refs j=true->er (lk j) (lk' j)/\G'.η j=G.η j) (hS:∀ b,G.S b->G'.S b) (hw:∀ b,St c G.S b->w'.heap[b]?=w.heap[b]?):OR c G' lk' w' id o:=by
 cases o with
 | box cs =>
  obtain⟨b,l,t,h1,h2,h3⟩:=h
  refine⟨b,l,t,gQ.trans h1,?_,h3.imp λ u y hu hy=>hy.mono (λ j hj=>hk j (nK hu hj)) hS hw⟩
  rw[hb b (by rw[h1];rfl)];exact h2
 | row e τ xs =>
  obtain⟨l,h1,h2,h3⟩:=h
  refine⟨l,?_,dA.aM hS (λ b hb=>hw b (.inl hb)) _ h2,h3⟩
  rw[gQ]
  exact EC h1 hb
 | aB τ xs=>trivial
 | map m =>
  obtain⟨b,es,clock,h1,h2,h3⟩:=h
  exact⟨b,es,clock,gQ.trans h1,by rw[hb b (by rw[h1];rfl)];exact h2,h3⟩
end
theorem km.aM{w w':World}{η:Value}{τ:Ty}{xs:List τ.den}{fp:List Nat}(h:km w η τ xs fp)(hw:∀ b∈fp,w'.heap[b]?=w.heap[b]?):km w' η τ xs fp:=by
 obtain⟨v,l,a,cap,h1,h2,h3,h4,h5,h6⟩:=h
 refine⟨v,l,a,cap,h1,h2,h3,h4,h5,h6.imp id ?_⟩
 rintro⟨b,f,t,k1,rfl,k2,k0,k3⟩
 exact⟨b,f,t,k1,rfl,by rw[hw b (by simp)];exact k2,k0,bQ.aM _ k3 λ b hb=>hw b (by simp[hb])⟩
theorem bn.world{c:Ctx}{G:Gh}{sl:Nat->AV}{n:Nat}{lk:Nat->Option av}{a:Act}{w w':World}{S':Nat->Prop}(h:bn c G sl n lk a w)
  (jW:bX (λ b=>c.w0.heap.size<=b\/c.X b) w w') (hS:∀ b,G.S b->S' b) (Xe:∀ b,b<w.heap.size->(S' b↔G.S b)) (hX:∀ b,c.S0 b->S' b) (hLt:∀ b,S' b->b<w'.heap.size)
  (hw:∀ b,St c G.S b->w'.heap[b]?=w.heap[b]?) (mT:∀ id o b,lk id=some o->dS (G.η id)=some b->w'.heap[b]?=w.heap[b]?) (vj:∀ id τ xs b,lk id=some (.aB τ xs)->b∈G.φ id->w'.heap[b]?=w.heap[b]?) :
  bn c ⟨S',G.η,G.φ⟩ sl n lk a w' where
 defers:=h.defers
 size:=h.size
 aM:=h.aM.trans jW λ i hi hy=>hy.elim (λ h=>by omega) id
 mO:=h.mO
 eF b hb hx:=(Xe b (a5Q hb h.aM.size)).trans (h.eF b hb hx)
 sX:=hX
 dX:=hLt
 aw i:=(h.aw i).mono (λ id _=>⟨er.refl _,rfl⟩) hS hw
 aH id o ho:=(h.aH id o ho).mono rfl (λ b hb=>mT id o b ho hb) (λ j _=>⟨er.refl _,rfl⟩) hS hw
 place id o b ho hb:=by
  obtain⟨h1,h2,h3⟩:=h.place id o b ho hb
  exact⟨h1,λ hs=>h2 ((Xe b h3).1 hs),a5Q h3 jW.size⟩
 apart:=h.apart
 aT:={
  tr:=λ id τ xs ht=>(h.aT.tr id τ xs ht).aM λ b hb=>vj id τ xs b ht hb
  nd:=h.aT.nd
  pl:=λ id τ xs b ht hb=>by
   obtain⟨h1,h2,h3,h4⟩:=h.aT.pl id τ xs b ht hb
   exact⟨h1,λ hs=>h2 ((Xe b h3).1 hs),a5Q h3 jW.size,h4⟩
  ap:=h.aT.ap }
 root:=h.root
 ka:=h.ka
 dF:=h.dF
 fJ:=h.fJ
theorem bn.drew{c:Ctx}{G:Gh}{sl:Nat->AV}{n:Nat}{lk:Nat->Option av}{a:Act}{w:World}(h:bn c G sl n lk a w):bn c G sl n lk a w.drew :=
 h.world (S':=G.S) ⟨rfl,rfl,rfl,a6b _,λ _ _ _=>rfl⟩ (λ _ h=>h) (λ _ _=>a7N) h.sX h.dX (λ _ _=>rfl) (λ _ _ _ _ _=>rfl) (λ _ _ _ _ _ _=>rfl)
def lL(n:Nat)(sl:Nat->AV)(d:Option Nat)(v:AV)(i:Nat):AV:=if d=some i/\i<n then v else sl i
theorem dZ(a:Act)(d:Option Nat)(x:Value)(i:Nat):(a.put d x).tmps.getD i undef=if d=some i/\i<a.tmps.size then x else a.tmps.getD i undef:=by
 cases d with
 | none=>simp[Act.put]
 | some d =>
  simp only[Act.put,a5E]
  by_cases h:d=i
  .subst h
   by_cases hl:d<a.tmps.size
   .simp[hl,a6s]
   .simp[hl,a6s,Array.setIfInBounds]
  .simp[h,a6s,a8V]
theorem iC(a:Act)(d:Option Nat)(x:Value):(a.put d x).tmps.size=a.tmps.size:=by cases d<;>simp[Act.put]
theorem lG(a:Act)(d:Option Nat)(x:Value):(a.put d x).defers=a.defers:=by cases d<;>rfl
theorem bn.put{c:Ctx}{G:Gh}{sl:Nat->AV}{n:Nat}{lk:Nat->Option av}{a:Act}{w:World}(h:bn c G sl n lk a w){d:Option Nat}{v:AV}{x:Value}(hv:VR c G lk w v x) :
  bn c G (lL n sl d v) n lk (a.put d x) w where
 defers:=(lG _ _ _).trans h.defers
 size:=(iC _ _ _).trans h.size
 aM:=h.aM
 mO:=h.mO
 eF:=h.eF
 sX:=h.sX
 dX:=h.dX
 aw i:=by
  rw[dZ,h.size,lL]
  split
  .exact hv
  .exact h.aw i
 aH:=h.aH
 place:=h.place
 apart:=h.apart
 aT:=h.aT
 root:=h.root
 ka:=h.ka
 dF:=h.dF
 fJ:=h.fJ
theorem bn.forget{c:Ctx}{G:Gh}{sl sl':Nat->AV}{n:Nat}{lk:Nat->Option av}{a:Act}{w:World}(h:bn c G sl n lk a w)(hs:∀ i,sl' i=sl i\/sl' i = .any):bn c G sl' n lk a w where
 defers:=h.defers
 size:=h.size
 aM:=h.aM
 mO:=h.mO
 eF:=h.eF
 sX:=h.sX
 dX:=h.dX
 aw i:=by
  rcases hs i with e|e
  .rw[e];exact h.aw i
  .rw[e];trivial
 aH:=h.aH
 place:=h.place
 apart:=h.apart
 aT:=h.aT
 root:=h.root
 ka:=h.ka
 dF:=h.dF
 fJ:=h.fJ
theorem Su(id:Nat)(v:AV):v.kill id=v\/v.kill id = .any:=by unfold AV.kill;split<;>simp
theorem zH(id:Nat)(v:AV):(v.kill id).refs id=false:=by
 unfold AV.kill
 split
 .rfl
 .assumption
theorem C1.kill{c:Ctx}{G:Gh}{lk:Nat->Option av}{w:World}{v:AV}{x:Value}(h:C1 c G lk w v x)(id:Nat):C1 c G lk w (v.kill id) x:=by
 rcases Su id v with e|e
 .rw[e];exact h
 .rw[e];trivial
theorem CE(id:Nat):∀ cs:List AV,AV.gI id (cs.map (AV.kill id))=false
 | []=>rfl
 | v::r=>by simp only[a6n,AV.gI,zH];exact CE id r
theorem OR.kill{c:Ctx}{G:Gh}{lk:Nat->Option av}{w:World}{i:Nat}{o:av}(h:OR c G lk w i o)(id:Nat):OR c G lk w i (o.kill id):=by
 cases o with
 | box cs =>
  obtain⟨b,l,t,h1,h2,h3⟩:=h
  exact⟨b,l,t,h1,h2,aN.eB _ (h3.imp λ u y _ hy=>hy.kill id)⟩
 | row e τ xs=>exact h
 | aB τ xs=>exact h
 | map m=>exact h
theorem F5(id:Nat)(o:Option av):er o (o.map (av.kill id)):=by
 refine⟨λ h=>?_,λ e τ xs h=>⟨e,xs,by rw[h];rfl,a6b _⟩,λ h=>?_,λ h=>?_⟩
 .match o,h with
  | some (.box cs),_=>rfl
 .match o,h with
  | some (.aB τ xs),_=>rfl
 .match o,h with
  | some (.map m),_=>rfl
theorem ly{id:Nat}{o:Option av}{τ:Ty}{xs:List τ.den}(h:o.map (av.kill id)=some (.aB τ xs)):o=some (.aB τ xs):=by
 match o,h with
 | some (.aB aZ cX),h=>exact h
 | some (.box _),h=>cases h
 | some (.row ..),h=>cases h
theorem EP.sub{c:Ctx}{G:Gh}{lk lk':Nat->Option av}{w:World}(h:EP c G lk w)(ht:∀ id τ xs,lk' id=some (.aB τ xs)->lk id=some (.aB τ xs))(ho:∀ i o,lk' i=some o->∃ o',lk i=some o'):EP c G lk' w where
 tr id τ xs k:=h.tr id τ xs (ht id τ xs k)
 nd id τ xs k:=h.nd id τ xs (ht id τ xs k)
 pl id τ xs b k hb:=by
  obtain⟨h1,h2,h3,h4⟩:=h.pl id τ xs b (ht id τ xs k) hb
  exact⟨h1,h2,h3,λ i o hi=>(ho i o hi).elim λ o' cM=>h4 i o' cM⟩
 ap id dD τ aZ xs cX b k k':=h.ap id dD τ aZ xs cX b (ht id τ xs k) (ht dD aZ cX k')
theorem bn.bW{c:Ctx}{G:Gh}{sl:Nat->AV}{n:Nat}{lk:Nat->Option av}{a:Act}{w:World}(h:bn c G sl n lk a w)(id:Nat) :
  bn c G (λ i=>(sl i).kill id) n (λ i=>(lk i).map (av.kill id)) a w:=by
 have h1:bn c G (λ i=>(sl i).kill id) n lk a w:=h.forget λ i=>Su id (sl i)
 exact {
  defers:=h1.defers,size:=h1.size,aM:=h1.aM,mO:=h1.mO,eF:=h1.eF,sX:=h1.sX,dX:=h1.dX
  aw:=λ i=>(h1.aw i).mono (λ j _=>⟨F5 id _,rfl⟩) (λ _ h=>h) (λ _ _=>rfl)
  aH:=λ i o ho=>by
   rw[a6r] at ho
   obtain⟨o',cM,rfl⟩:=ho
   exact ((h1.aH i o' cM).kill id).mono rfl (λ _ _=>rfl) (λ j _=>⟨F5 id _,rfl⟩) (λ _ h=>h) (λ _ _=>rfl)
  place:=λ i o b ho hb=>by
   rw[a6r] at ho
   obtain⟨o',cM,rfl⟩:=ho
   exact h1.place i o' b cM hb
  apart:=λ i j o o' b ho cM hb cw=>by
   rw[a6r] at ho cM
   obtain⟨p,hp,rfl⟩:=ho
   obtain⟨q,hq,rfl⟩:=cM
   exact h1.apart i j p q b hp hq hb cw
  aT:=h1.aT.sub (λ i τ xs k=>ly k) (λ i o k=>by
   rw[a6r] at k
   obtain⟨p,hp,_⟩:=k
   exact⟨p,hp⟩)
  root:=λ i v hr ht=>h1.root i v hr (by
   match hl:lk i,ht with
   | some (.aB ..),_=>rfl
   | some (.box _),ht=>simp[hl,av.kill,df] at ht
   | some (.row ..),ht=>simp[hl,av.kill,df] at ht
   | none,ht=>simp[hl,df] at ht)
  ka:=h1.ka
  dF:=λ i v hr ht=>h1.dF i v hr (by
   match hl:lk i,ht with
   | some (.box _),_=>rfl
   | some (.aB ..),ht=>simp[hl,av.kill,gG] at ht
   | some (.row ..),ht=>simp[hl,av.kill,gG] at ht
   | none,ht=>simp[hl,gG] at ht)
  fJ:=h1.fJ }
theorem bn.Y8{c:Ctx}{G:Gh}{sl:Nat->AV}{n:Nat}{lk:Nat->Option av}{a:Act}{w:World}(h:bn c G sl n lk a w)(id:Nat)
  (hs:∀ i,(sl i).refs id=false) (ho:∀ i o,lk i=some o->i≠id->o.refs id=false):bn c G sl n (λ i=>if i=id then none else lk i) a w:=by
 have gd:∀ j,j≠id->er (lk j) ((λ i=>if i=id then none else lk i) j):=λ j hj=>by simp only[a5J hj];exact er.refl _
 exact {
  defers:=h.defers,size:=h.size,aM:=h.aM,mO:=h.mO,eF:=h.eF,sX:=h.sX,dX:=h.dX
  aw:=λ i=>(h.aw i).mono (λ j hj=>⟨gd j (λ e=>by subst e;rw[hs i] at hj;cases hj),rfl⟩) (λ _ h=>h) (λ _ _=>rfl)
  aH:=λ i o cm=>by
   by_cases hi:i=id
   .simp[hi] at cm
   .simp only[a5J hi] at cm
    exact (h.aH i o cm).mono rfl (λ _ _=>rfl) (λ j hj=>⟨gd j (λ e=>by subst e;rw[ho i o cm hi] at hj;cases hj),rfl⟩) (λ _ h=>h) (λ _ _=>rfl)
  place:=λ i o b cm hb=>by
   by_cases hi:i=id
   .simp[hi] at cm
   .simp only[a5J hi] at cm
    exact h.place i o b cm hb
  apart:=λ i j o o' b cm FA hb cw=>by
   by_cases hi:i=id
   .simp[hi] at cm
   .by_cases hj:j=id
    .simp[hj] at FA
    .simp only[a5J hi] at cm
     simp only[a5J hj] at FA
     exact h.apart i j o o' b cm FA hb cw
  aT:=h.aT.sub (λ i τ xs k=>by
   by_cases hi:i=id
   .simp[hi] at k
   .simpa only[if_neg hi] using k) (λ i o k=>by
   by_cases hi:i=id
   .simp[hi] at k
   .exact⟨o,by simpa only[if_neg hi] using k⟩)
  root:=λ i v hr ht=>h.root i v hr (by
   by_cases hi:i=id
   .simp[hi,df] at ht
   .simpa only[if_neg hi] using ht)
  ka:=h.ka
  dF:=λ i v hr ht=>h.dF i v hr (by
   by_cases hi:i=id
   .simp[hi,gG] at ht
   .simpa only[if_neg hi] using ht)
  fJ:=h.fJ }
theorem bn.newObj{c:Ctx}{G:Gh}{sl:Nat->AV}{n:Nat}{lk:Nat->Option av}{a:Act}{w:World}(h:bn c G sl n lk a w)(id:Nat)(o:av)(x:Value)
  (aW:lk id=none) (hs:∀ i,(sl i).refs id=false) (ho:∀ i o,lk i=some o->o.refs id=false) (hor:o.refs id=false)
  (rH:OR c ⟨G.S,λ i=>if i=id then x else G.η i,G.φ⟩ (λ i=>if i=id then some o else lk i) w id o)
  (K9:df (some o)=false) (bF:gG (some o)=false\/id<400000) (kP:∀ b,dS x=some b->(c.w0.heap.size<=b\/c.X b)/\¬ G.S b/\b<w.heap.size/\(∀ i o',lk i=some o'->dS (G.η i)≠some b)/\∀ j τ xs,lk j=some (.aB τ xs)->b∉G.φ j) :
  bn c ⟨G.S,λ i=>if i=id then x else G.η i,G.φ⟩ sl n (λ i=>if i=id then some o else lk i) a w:=by
 have gd:∀ j,j≠id->er (lk j) ((λ i=>if i=id then some o else lk i) j)/\(if j=id then x else G.η j)=G.η j:=λ j hj=>by simp only[a5J hj];exact⟨er.refl _,trivial⟩
 exact {
  defers:=h.defers,size:=h.size,aM:=h.aM,mO:=h.mO,eF:=h.eF,sX:=h.sX,dX:=h.dX
  aw:=λ i=>(h.aw i).mono (λ j hj=>gd j (λ e=>by subst e;rw[hs i] at hj;cases hj)) (λ _ h=>h) (λ _ _=>rfl)
  aH:=λ i o' cm=>by
   by_cases hi:i=id
   .subst hi
    simp only[a7O,a5E] at cm
    subst cm
    exact rH
   .simp only[a5J hi] at cm
    exact (h.aH i o' cm).mono (by simp only[a5J hi]) (λ _ _=>rfl) (λ j hj=>gd j (λ e=>by subst e;rw[ho i o' cm] at hj;cases hj)) (λ _ h=>h) (λ _ _=>rfl)
  place:=λ i o' b cm hb=>by
   by_cases hi:i=id
   .simp only[a5T hi] at hb
    obtain⟨h1,h2,h3,_⟩:=kP b hb
    exact⟨h1,h2,h3⟩
   .simp only[a5J hi] at cm hb
    exact h.place i o' b cm hb
  apart:=λ i j o1 o2 b cm FA hb cw=>by
   by_cases hi:i=id
   .by_cases hj:j=id
    .rw[hi,hj]
    .simp only[a5J hj] at FA cw
     simp only[a5T hi] at hb
     exact absurd cw ((kP b hb).2.2.2.1 j o2 FA)
   .by_cases hj:j=id
    .simp only[a5J hi] at cm hb
     simp only[a5T hj] at cw
     exact absurd hb ((kP b cw).2.2.2.1 i o1 cm)
    .simp only[a5J hi] at cm hb
     simp only[a5J hj] at FA cw
     exact h.apart i j o1 o2 b cm FA hb cw
  aT:=by
   have hold:∀ j τ xs,(if j=id then some o else lk j)=some (.aB τ xs)->j≠id/\lk j=some (.aB τ xs):=λ j τ xs k=>by
    by_cases hj:j=id
    .rw[a5T hj] at k
     cases k
     cases K9
    .rw[a5J hj] at k
     exact⟨hj,k⟩
   exact {
    tr:=λ j τ xs k=>by
     obtain⟨h1,h2⟩:=hold j τ xs k
     simp only[a5J h1]
     exact h.aT.tr j τ xs h2
    nd:=λ j τ xs k=>h.aT.nd j τ xs (hold j τ xs k).2
    pl:=λ j τ xs b k hb=>by
     obtain⟨h1,h2,h3,h4⟩:=h.aT.pl j τ xs b (hold j τ xs k).2 hb
     refine⟨h1,h2,h3,λ i p uv=>?_⟩
     by_cases hi:i=id
     .simp only[a5T hi]
      exact λ e=>(kP b e).2.2.2.2 j τ xs (hold j τ xs k).2 hb
     .simp only[a5J hi] at uv ⊢
      exact h4 i p uv
    ap:=λ j j' τ aZ xs cX b k k'=>h.aT.ap j j' τ aZ xs cX b (hold j τ xs k).2 (hold j' aZ cX k').2 }
  root:=λ i v hr ht=>by
   by_cases hi:i=id
   .simp only[a5T hi] at ht;rw[K9] at ht;cases ht
   .simp only[a5J hi] at ht ⊢;exact h.root i v hr ht
  ka:=h.ka
  dF:=λ i v hr ht=>by
   by_cases hi:i=id
   .subst hi
    rcases bF with bF|bF
    .simp only[a7O] at ht
     rw[bF] at ht
     cases ht
    .have:=h.fJ i v hr;omega
   .simp only[a5J hi] at ht ⊢;exact h.dF i v hr ht
  fJ:=h.fJ }
theorem bn.QC{c:Ctx}{G:Gh}{sl:Nat->AV}{n:Nat}{lk:Nat->Option av}{a:Act}{w w':World}(h:bn c G sl n lk a w)(id:Nat)(o o':av)(b:Nat)(aW:lk id=some o)(hb:dS (G.η id)=some b)
  (gd:er (some o) (some o')) (K9:df (some o')=false) (hw:∀ k,k≠b->w'.heap[k]?=w.heap[k]?) (hos:w'.os=w.os) (T8:w'.tape=w.tape) (Pd:w'.output=w.output) (B5:w'.heap.size=w.heap.size)
  (rH:OR c G (λ i=>if i=id then some o' else lk i) w' id o'):bn c G sl n (λ i=>if i=id then some o' else lk i) a w':=by
 obtain⟨Ox,hp2,hp3⟩:=h.place id o b aW hb
 have cp:∀ k,St c G.S k->w'.heap[k]?=w.heap[k]?:=λ k hk=>hw k λ e=>by
  subst e
  rcases hk with hk|hk
  .exact hp2 hk
  .exact Ox.elim (λ q=>by omega) hk.2.1
 have hs:∀ j,er (lk j) ((λ i=>if i=id then some o' else lk i) j):=λ j=>by
  by_cases hj:j=id
  .subst hj;simp only[a7O];rw[aW];exact gd
  .simp only[a5J hj];exact er.refl _
 exact {
  defers:=h.defers,size:=h.size
  aM:=h.aM.trans (Y:=λ k=>c.w0.heap.size<=k\/c.X k) ⟨hos,T8,Pd,Nat.le_of_eq B5.symm,λ k _ hx=>hw k λ e=>by subst e;exact hx Ox⟩ λ i hi hy=>hy.elim (λ h=>by omega) (λ h=>h)
  mO:=h.mO,eF:=h.eF,sX:=h.sX
  dX:=λ k hk=>by rw[B5];exact h.dX k hk
  aw:=λ i=>(h.aw i).mono (λ j _=>⟨hs j,rfl⟩) (λ _ h=>h) cp
  aH:=λ i p hp=>by
   by_cases hi:i=id
   .subst hi
    simp only[a7O,a5E] at hp
    subst hp
    exact rH
   .simp only[a5J hi] at hp
    exact (h.aH i p hp).mono rfl (λ k hk=>hw k λ e=>by subst e;exact hi (h.apart i id p o _ hp aW hk hb)) (λ j _=>⟨hs j,rfl⟩) (λ _ h=>h) cp
  place:=λ i p k hp hk=>by
   rw[B5]
   by_cases hi:i=id
   .subst hi;exact h.place i o k aW hk
   .simp only[a5J hi] at hp
    exact h.place i p k hp hk
  apart:=λ i j p q k hp hq hk iR=>by
   by_cases hi:i=id
   .by_cases hj:j=id
    .rw[hi,hj]
    .simp only[a5J hj] at hq
     rw[hi] at hk ⊢
     exact h.apart id j o q k aW hq hk iR
   .simp only[a5J hi] at hp
    by_cases hj:j=id
    .rw[hj] at iR ⊢
     exact h.apart i id p o k hp aW hk iR
    .simp only[a5J hj] at hq
     exact h.apart i j p q k hp hq hk iR
  aT:=by
   have hold:∀ j τ xs,(if j=id then some o' else lk j)=some (.aB τ xs)->lk j=some (.aB τ xs):=λ j τ xs k=>by
    by_cases hj:j=id
    .rw[a5T hj] at k
     cases k
     cases K9
    .rwa [a5J hj] at k
   exact {
    tr:=λ j τ xs k=>(h.aT.tr j τ xs (hold j τ xs k)).aM λ k' iR=>hw k' λ e=>by
     subst e
     exact (h.aT.pl j τ xs _ (hold j τ xs k) iR).2.2.2 id o aW hb
    nd:=λ j τ xs k=>h.aT.nd j τ xs (hold j τ xs k)
    pl:=λ j τ xs b' k cw=>by
     obtain⟨h1,h2,h3,h4⟩:=h.aT.pl j τ xs b' (hold j τ xs k) cw
     refine⟨h1,h2,by rw[B5];exact h3,λ i p uv=>?_⟩
     by_cases hi:i=id
     .rw[hi];exact h4 id o aW
     .rw[a5J hi] at uv
      exact h4 i p uv
    ap:=λ j j' τ aZ xs cX b' k k'=>h.aT.ap j j' τ aZ xs cX b' (hold j τ xs k) (hold j' aZ cX k') }
  root:=λ i v hr ht=>by
   by_cases hi:i=id
   .simp only[a5T hi] at ht;rw[K9] at ht;cases ht
   .simp only[a5J hi] at ht;exact h.root i v hr ht
  ka:=h.ka
  dF:=λ i v hr ht=>by
   by_cases hi:i=id
   .subst hi
    simp only[a7O] at ht
    refine h.dF i v hr ?_
    rw[aW]
    cases o with
    | box cs=>rfl
    | row e τ xs=>obtain⟨e',cX,q,_⟩:=gd.2.1 e τ xs rfl;rw[q] at ht;cases ht
    | aB τ xs=>have h3:df (some o')=true:=gd.2.2.1 rfl;rw[K9] at h3;cases h3
    | map m =>
     obtain⟨b1,_,_,k1,_⟩:=h.aH i _ aW
     match o',ht with
     | .box cs,_ =>
      obtain⟨b2,_,_,k2,_⟩:=rH
      rw[k1] at k2;cases k2
   .simp only[a5J hi] at ht;exact h.dF i v hr ht
  fJ:=h.fJ }
end Go.Proofs.YtnehkikdlnmebaaGreatDoor

namespace Go.Proofs.YtnehkikdlnmebaaGreatDoor
def vP:Ty->Value->Bool
 | .int k, .int k' n=>decide (k=k')&&decide (n=0)
 | .bool, .bool b => !b
 | .str, .string s=>s.data.toList.isEmpty
 | .slice _, .slice none 0 0=>true
 | .ptr, .pointer none=>true
 | _,_=>false
def IG:List Ty->List Value->Bool
 | [],[]=>true
 | t::ts,v::vs=>vP t v&&IG ts vs
 | _,_=>false
def xi(τ:Ty)(v:Value):Bool :=
 match τ,v with
 | .st s, .agg cs=>IG s.uV cs.toList
 | .st _,_=>false
 | τ,v=>vP τ v
def LM(P:Program)(T:TypeId)(τ:Ty):Bool :=
 match P.info? T with
 | some i=>Nat.beq i.size τ.size&&(match i.zero with
  | some z=>xi τ z
  | none=>false)
 | none=>false
def C3(E:Env)(s:aR):Nat->List Field->List Ty->Bool
 | _,[],[]=>true
 | i,f::fs,t::ts=>(match ae E.ty f.type with
   | some (τ,_)=>decide (τ=t)
   | none=>false)&&Nat.beq f.offset (s.fH i)&&C3 E s (i+1) fs ts
 | _,_,_=>false
def sK(P:Program)(E:Env)(T:TypeId)(τ:Ty)(b e:Nat):Bool :=
 LM P T τ&&match τ with
  | .int k=>match P.underlying T with
   | some (.int k')=>decide (k=k')
   | _=>false
  | .bool=>match P.underlying T with
   | some .bool=>true
   | _=>false
  | .str=>match P.underlying T with
   | some .string=>true
   | _=>false
  | .slice t=>match P.underlying T with
   | some (.slice e')=>Nat.beq e e'&&(match ae E.ty e with
     | some (aZ,_)=>decide (aZ=t)
     | none=>false)&&(match P.info? e with
     | some i=>Nat.beq i.bytes b
     | none=>false)&&LM P e t
   | _=>false
  | .st s=>match P.underlying T with
   | some (.struct fs)=>C3 E s 0 fs.toList s.gV
   | _=>false
  | .mv _=>false
  | .ptr=>match P.underlying T with
   | some (.pointer _)=>true
   | _=>false
def Nr(P:Program)(E:Env)(T:TypeId)(κ ε:Ty):Bool:=match P.underlying T with
 | some (.map k e)=>match ae E.ty k,ae E.ty e with
  | some (κ',_),some (ε',_)=>decide (κ'=κ)&&(decide (ε'=ε)&&(κ.key&&ε.key))
  | _,_=>false
 | _=>false
structure Info(P:Program)(T:TypeId)(τ:Ty):Prop where
 ex:∃ i z,P.info? T=some i/\i.size=τ.size/\i.zero=some z/\xi τ z=true
theorem Sm{P:Program}{T:TypeId}{τ:Ty}(h:LM P T τ=true):Info P T τ:=by
 unfold LM at h
 split at h
 .rename_i i hi
  simp only[a5I] at h
  obtain⟨h1,h2⟩:=h
  split at h2
  .rename_i z hz
   exact⟨i,z,hi,a5F h1,hz,h2⟩
  .cases h2
 .cases h
def uJ(P:Program)(w:World)(S:Nat->Prop):Arg->Value->Prop
 | .di v,x=>∃ f gK l,x = .func (.func f) #[] l.toArray/\CX P f gK v.ps v.r v.F []/\aN (EL w S) gK l
 | a,x=>EL w S a x
theorem uJ.of0{P:Program}{w:World}{S:Nat->Prop}{a:Arg}{x:Value}(h:EL w S a x):uJ P w S a x:=by
 cases a with
 | di v=>exact h.elim
 | own v=>exact h.elim
 | box k=>exact h.elim
 | _=>exact h
def bD(P:Program)(f:FuncId)(args:List Arg)(post:List TV->Prop):Prop :=
 ∀ (w:World) (S:Nat->Prop) (cF:List Value),oE w S->aN (uJ P w S) args cF ->
  Calls P f cF.toArray w λ e w'=>∃ x S' res,e = .returned x/\post res/\bX (λ _=>False) w w'/\(∀ b,b<w.heap.size->(S' b↔S b))/\(∀ b,S' b->b<w'.heap.size)/\D5 w' S' res x
def AT(w:World)(v:TV)(x:Value)(fp:List Nat):Prop :=
 match v with
 | ⟨.st s,y⟩=>∃ cs,x = .agg cs.toArray/\Ow w (s.aK y) cs fp
 | v=>Ow w v.aK [x] fp
def Gl(w:World):List TV->List Value->List Nat->Prop
 | [],[],fp=>fp=[]
 | v::vs,x::xs,fp=>∃ f1 f2,fp=f1++f2/\AT w v x f1/\Gl w vs xs f2
 | _,_,_=>False
def EN(w:World):List TV->Value->List Nat->Prop
 | [v],x,fp=>AT w v x fp
 | vs,x,fp=>∃ l,x = .tuple l.toArray/\Gl w vs l fp
def tF(P:Program)(w:World)(S:Nat->Prop):List Arg->List Value->List Nat->Prop
 | [],[],fp=>fp=[]
 | a::Z9,x::xs,fp=>∃ f1 f2,fp=f1++f2/\(match a with
  | .own v=>AT w v x f1
  | a=>f1=[]/\uJ P w S a x)/\tF P w S Z9 xs f2
 | _,_,_=>False
def ng(P:Program)(f:FuncId)(args:List Arg)(res:List TV):Prop :=
 ∀ (w:World) (S:Nat->Prop) (cF:List Value) (fa:List Nat),oE w S->tF P w S args cF fa->(fa=[]\/∀ a∈args,a.F8=true)->fa.Nodup->(∀ b∈fa,b<w.heap.size/\¬ S b) ->
  Calls P f cF.toArray w λ e w'=>∃ x fp,e = .returned x/\bX (λ b=>b∈fa) w w'/\EN w' res x fp/\fp.Nodup/\∀ b∈fp,b∈fa\/(w.heap.size<=b/\b<w'.heap.size)
theorem tF.NF{P:Program}{w:World}{S:Nat->Prop}:∀ {Z9:List Arg} {xs:List Value},aN (uJ P w S) Z9 xs->tF P w S Z9 xs []
 | [],[],_=>rfl
 | a::Z9,x::xs,h=>by
  refine⟨[],[],rfl,?_,tF.NF h.2⟩
  cases a with
  | own v=>exact h.1.elim
  | box k=>exact h.1.elim
  | _=>exact⟨rfl,h.1⟩
 | [],_::_,h=>h.elim
 | _::_,[],h=>h.elim
def PG(P:Program)(f:FuncId)(m:OJ):Prop :=
 ∀ (x:m.τ.den) (k:Int) (w:World) (v:Value) (fp:List Nat),(m.g x k).1.ok->ag k->WB w (λ b=>b<w.heap.size/\b∉fp)->AT w ⟨m.τ,x⟩ v fp->fp.Nodup->(∀ b∈fp,b<w.heap.size) ->
  Calls P f #[v, .int .i64 k] w λ e w'=>e = .returned (.int .i64 (m.g x k).2.2)/\ag (m.g x k).2.2/\bX (λ b=>b∈fp) w w'/\∃ TD,AT w' ⟨m.τ,(m.g x k).2.1⟩ v TD/\TD.Nodup/\∀ b∈TD,b∈fp\/(w.heap.size<=b/\b<w'.heap.size)
def mP(w:World)(S:Nat->Prop)(B:Nat->Nat):List CK->List TV->List Value->List Nat->Prop
 | [],[],[],fp=>fp=[]
 | .d τ::ks,v::ds,x::xs,fp=>(v.τ=τ/\τ.agg=false/\Rd w S v.aK [x])/\mP w S B ks ds xs fp
 | .o τ::ks,v::ds,x::xs,fp=>∃ f1 f2,fp=f1++f2/\(v.τ=τ/\τ.agg=false/\Ow w v.aK [x] f1)/\mP w S B ks ds xs f2
 | .p j::ks,ds,x::xs,fp=>x = .pointer (some ⟨B j,0,none⟩)/\mP w S B ks ds xs fp
 | _,_,_,_=>False
def kc(w:World)(S:Nat->Prop)(B:Nat->Nat):Nat->List (List CK)->List (List TV)->List Nat->Prop
 | _,[],[],fp=>fp=[]
 | k,ks::sh,ds::bO,fp=>∃ l t f1 f2,fp=f1++f2/\w.heap[B k]?=some (.cells l.toArray t (0,0))/\mP w S B ks ds l f1/\kc w S B (k+1) sh bO f2
 | _,_,_,_=>False
def Rh(w:World)(S X:Nat->Prop)(B:Nat->Nat):Arg->Value->Prop
 | .box k,x=>x = .pointer (some ⟨B k,0,none⟩)
 | .val v,x=>eI w S v x
 | .ref v,x=>∃ b o cs,x = .pointer (some ⟨b,o,none⟩)/\b<w.heap.size/\¬ X b/\bP w b o cs/\Rd w S v.aK cs
 | .fn f,x=>x = .func (.func f) #[] #[]
 | .di _,_=>False
 | .own _,_=>False
def BX(n:Nat)(B:Nat->Nat)(fa:List Nat)(b:Nat):Prop:=b∈fa\/∃ k,k<n/\b=B k
def p7(P:Program)(f:FuncId)(sh:List (List CK))(args:List Arg)(bO:List (List TV))(res:List TV)(fw:List (List TV)):Prop :=
 ∀ (w:World) (S:Nat->Prop) (B:Nat->Nat) (cF:List Value) (fa:List Nat),oE w S->kc w S B 0 sh bO fa->fa.Nodup->(∀ b∈fa,b<w.heap.size/\¬ S b/\∀ k,k<sh.length->B k≠b) ->
  (∀ k,k<sh.length->B k<w.heap.size/\¬ S (B k))->(∀ j k,j<sh.length->k<sh.length->B j=B k->j=k)->aN (Rh w S (BX sh.length B fa) B) args cF ->
  Calls P f cF.toArray w λ e w'=>∃ x S' fp I3,e = .returned x/\bX (BX sh.length B fa) w w'/\(∀ b,S b->S' b)/\(∀ b,S' b->b<w'.heap.size)/\(∀ b,b<w.heap.size->¬ BX sh.length B fa b->(S' b↔S b)) /\
   EN w' res x fp/\kc w' S' B 0 sh fw I3/\(fp++I3).Nodup/\(∀ b∈fp++I3,(b∈fa\/(w.heap.size<=b/\b<w'.heap.size))/\¬ S' b/\∀ k,k<sh.length->B k≠b)/\∀ k,k<sh.length->¬ S' (B k)
theorem bD.ok0{P:Program}{f:FuncId}{args:List Arg}{post:List TV->Prop}(h:bD P f args post):Gk P f args post :=
 λ w S cF hS ha=>h w S cF hS (ha.imp λ _ _ _ hx => .of0 hx)
def WG(w:World)(S:Nat->Prop)(x:Value):Rj->Prop
 | .box cells=>∃ b l t,x = .pointer (some ⟨b,0,none⟩)/\w.heap[b]?=some (.cells l.toArray t (0,0))/\aN (λ v x=>v.τ.agg=false/\Rd w S v.aK [x]) cells l
 | .row e τ xs=>∃ l,w.ownsRow 0 e τ.size x xs.length l/\dA w S (xs.map τ.aK) l/\xs.length<=140737488355328
def Tf(P:Program)(f:FuncId)(args:List Arg)(o:Rj):Prop :=
 ∀ (w:World) (S:Nat->Prop) (cF:List Value),oE w S->aN (uJ P w S) args cF ->
  Calls P f cF.toArray w λ e w'=>∃ x S',e = .returned x/\bX (λ _=>False) w w'/\(∀ k,k<w.heap.size->(S' k↔S k))/\(∀ k,S' k->k<w'.heap.size) /\
   (∀ b,dS x=some b->w.heap.size<=b/\b<w'.heap.size/\¬ S' b)/\WG w' S' x o
structure bJ(P:Program)(E:Env):Prop where
 ty:∀ T τ b e,ae E.ty T=some (τ,b,e)->sK P E T τ b e=true
 Sz:∀ T κ ε,ae E.Sz T=some (κ,ε)->Nr P E T κ ε=true
 Ut:∀ T τ,ae E.Ut T=some τ->True
 IV:∀ f args pre res,E.IV f args=some (pre,res)->pre.ok->oC P f/\bD P f args (·=res)
 HI:∀ f args pre res,E.HI f args=some (pre,res)->pre.ok->oC P f/\ng P f args res
 mark:∀ f m,E.mark f=some m->oC P f/\PG P f m
 Nw:∀ f args pre o,E.Nw f args=some (pre,o)->pre.ok->oC P f/\Tf P f args o
 Pr:∀ f sk args bO pre res fw,E.sk f=some sk->E.Pr f args bO=some (pre,res,fw)->pre.ok->oC P f/\p7 P f sk.sh args bO res fw
section
variable {P:Program} {E:Env} {T:TypeId} {τ:Ty} {b e:Nat}
theorem bJ.info(hE:bJ P E)(h:ae E.ty T=some (τ,b,e)):Info P T τ:=by
 have:=hE.ty _ _ _ _ h
 unfold sK at this
 simp only[a5I] at this
 exact Sm this.1
theorem bJ.int(hE:bJ P E){k:IntKind}(h:ae E.ty T=some (.int k,b,e)):P.underlying T=some (.int k):=by
 have:=hE.ty _ _ _ _ h
 unfold sK at this
 simp only[a5I] at this
 have h2:=this.2
 split at h2
 .rename_i k' hk
  rw[hk,a6f h2]
 .cases h2
theorem bJ.bool(hE:bJ P E)(h:ae E.ty T=some (.bool,b,e)):P.underlying T=some .bool:=by
 have:=hE.ty _ _ _ _ h
 unfold sK at this
 simp only[a5I] at this
 have h2:=this.2
 split at h2
 .assumption
 .cases h2
theorem bJ.str(hE:bJ P E)(h:ae E.ty T=some (.str,b,e)):P.underlying T=some .string:=by
 have:=hE.ty _ _ _ _ h
 unfold sK at this
 simp only[a5I] at this
 have h2:=this.2
 split at h2
 .assumption
 .cases h2
theorem bJ.slice(hE:bJ P E){t:Ty}(h:ae E.ty T=some (.slice t,b,e)) :
  P.underlying T=some (.slice e)/\(∃ b' e',ae E.ty e=some (t,b',e'))/\(∃ i z,P.info? e=some i/\i.size=t.size/\i.bytes=b/\i.zero=some z/\xi t z=true):=by
 have:=hE.ty _ _ _ _ h
 unfold sK at this
 simp only[a5I] at this
 have h2:=this.2
 split at h2
 .rename_i e' yg
  simp only[a5I] at h2
  obtain⟨⟨⟨h3,h4⟩,h5⟩,h6⟩:=h2
  have h3:=a5F h3
  subst h3
  split at h4
  .rename_i aZ r hl
   have h4:=a6f h4
   subst h4
   obtain⟨i,z,hi,hs,hz,ZT⟩:=(Sm h6).ex
   rw[hi] at h5
   exact⟨yg,⟨_,_,hl⟩,i,z,hi,hs,a5F h5,hz,ZT⟩
  .cases h4
 .cases h2
theorem GX{s:aR}:∀ (n:Nat) (fs:List Field) (ts:List Ty),C3 E s n fs ts=true->fs.length=ts.length /\
  ∀ i f,fs[i]?=some f->∃ t b e,ts[i]?=some t/\ae E.ty f.type=some (t,b,e)/\f.offset=s.fH (n+i)
 | _,[],[],_=>⟨rfl,by simp⟩
 | n,f::fs,t::ts,h=>by
  simp only[C3,a5I] at h
  obtain⟨⟨h1,h2⟩,h3⟩:=h
  obtain⟨h4,h5⟩:=GX (n+1) fs ts h3
  refine⟨by simp[h4],λ i g hi=>?_⟩
  cases i with
  | zero =>
   simp at hi
   subst hi
   split at h1
   .rename_i τ r hl
    have h1:=a6f h1
    subst h1
    exact⟨_,_,_,rfl,hl,a5F h2⟩
   .cases h1
  | succ i =>
   obtain⟨t',b',e',k1,k2,k3⟩:=h5 i g (by simpa using hi)
   exact⟨t',b',e',by simpa using k1,k2,by rw[k3];congr 1;omega⟩
 | _,[],_::_,h=>by cases h
 | _,_::_,[],h=>by cases h
theorem bJ.st(hE:bJ P E){s:aR}(h:ae E.ty T=some (.st s,b,e)) :
  ∃ fs,P.underlying T=some (.struct fs)/\fs.size=s.gV.length/\∀ i f,fs[i]?=some f->∃ t b e,s.gV[i]?=some t/\ae E.ty f.type=some (t,b,e)/\f.offset=s.fH i:=by
 have:=hE.ty _ _ _ _ h
 unfold sK at this
 simp only[a5I] at this
 have h2:=this.2
 split at h2
 .rename_i fs hfs
  obtain⟨h3,h4⟩:=GX 0 _ _ h2
  refine⟨fs,hfs,by simpa using h3,λ i f hi=>?_⟩
  obtain⟨t,b',e',k1,k2,k3⟩:=h4 i f (by simpa using hi)
  exact⟨t,b',e',k1,k2,by simpa using k3⟩
 .cases h2
theorem bJ.X8(hE:bJ P E){t:Ty}(h:ae E.ty T=some (.mv t,b,e)):False:=by
 have:=hE.ty _ _ _ _ h
 unfold sK at this
 simp at this
theorem bJ.ptr(hE:bJ P E)(h:ae E.ty T=some (.ptr,b,e)):∃ t,P.underlying T=some (.pointer t):=by
 have:=hE.ty _ _ _ _ h
 unfold sK at this
 simp only[a5I] at this
 have h2:=this.2
 split at h2
 .rename_i t ht;exact⟨t,ht⟩
 .cases h2
theorem bJ.isAgg(hE:bJ P E)(h:ae E.ty T=some (τ,b,e))(w:World):(isAgg T).run P w = .ok τ.agg w:=by
 cases τ with
 | int k=>simp[Go.isAgg,a6x (hE.int h)];rfl
 | bool=>simp[Go.isAgg,a6x (hE.bool h)];rfl
 | str=>simp[Go.isAgg,a6x (hE.str h)];rfl
 | slice t=>simp[Go.isAgg,a6x (hE.slice h).1];rfl
 | st s=>obtain⟨fs,h1,_⟩:=hE.st h;simp[Go.isAgg,a6x h1];rfl
 | mv t=>exact (hE.X8 h).elim
 | ptr=>obtain⟨t,ht⟩:=hE.ptr h;simp[Go.isAgg,a6x ht];rfl
theorem bJ.sizeOf(hE:bJ P E)(h:ae E.ty T=some (τ,b,e))(w:World):(sizeOf T).run P w = .ok τ.size w:=by
 obtain⟨i,z,h1,h2,_⟩:=(hE.info h).ex
 simp[Go.sizeOf,typeInfo,h1,h2]
theorem Ty.lD{τ:Ty}(h:τ.agg=false):τ.size=1:=by cases τ<;>first|rfl|cases h
theorem aR.size_pos(s:aR):0<s.size:=by cases s<;>decide
theorem Ty.size_pos(τ:Ty):0<τ.size:=by cases τ<;>first|exact Nat.one_pos|exact aR.size_pos _
def DW(τ:Ty)(cs:List Value):Value :=
 match τ with
 | .st _ => .agg cs.toArray
 | _=>cs.getD 0 undef
theorem nL(hE:bJ P E)(h:ae E.ty T=some (τ,b,e)){w:World}{bk o:Nat}{cs:List Value}(hc:bP w bk o cs)(hl:cs.length=τ.size) :
  (Instr.loadAt T (.pointer (some ⟨bk,o,none⟩))).run P w = .ok (DW τ cs) w:=by
 have Jb:∀ j v,cs[j]?=some v->w.cell? ((⟨bk,o,none⟩:Addr).add j)=some v:=λ j v hj=>by rw[a7j];exact hc j v hj
 simp only[Instr.loadAt,Instr.sureAddr,loadVar,a6d,a6e,a5S,hE.isAgg h]
 cases kR:τ.agg with
 | true =>
  simp only[a7O,a6d,hE.sizeOf h,a5S]
  rw[<-hl,run_loadCells_list w _ cs Jb]
  cases τ<;>first|rfl|cases kR
 | false =>
  have h1:cs.length=1:=hl.trans (Ty.lD kR)
  match cs,h1 with
  | [v],_ =>
   have:=hc 0 v rfl
   simp only[a7D] at this
   simp[run_load,this]
   cases τ<;>first|rfl|cases kR
end
end Go.Proofs.YtnehkikdlnmebaaGreatDoor

namespace Go.Proofs.YtnehkikdlnmebaaGreatDoor
section
variable {c:Ctx} {G:Gh} {lk:Nat->Option av} {w:World}
theorem C1.hJ{v:AV}{x:Value}(h:C1 c G lk w v x):VR c G lk w v x:=by
 cases v with
 | aS v =>
  obtain⟨τ,y⟩:=v
  cases τ with
  | st s=>cases h.1
  | _=>exact h.2
 | agg cs=>exact h.elim
 | j8 vs=>exact h.elim
 | di f cs=>exact h.elim
 | _=>exact h
theorem VR.Py{v:AV}{x:Value}(h:VR c G lk w v x)(hc:v.cell=true):C1 c G lk w v x:=by
 cases v with
 | aS v =>
  obtain⟨τ,y⟩:=v
  cases τ with
  | st s=>cases hc
  | _=>exact⟨rfl,h⟩
 | agg cs=>cases hc
 | j8 vs=>cases hc
 | di f cs=>cases hc
 | any=>cases hc
 | _=>exact h
theorem lv{v:TV}(h:v.τ.agg=false):v.aK.leaf=true:=by
 obtain⟨τ,y⟩:=v
 cases τ<;>first|rfl|exact Jm _ _ _|cases h
theorem C1.leaf{v:AV}{x:Value}(h:C1 c G lk w v x)(hc:v.cell=true):x.oneCell'=true/\x.cells = #[x]:=by
 cases v with
 | any=>cases hc
 | eC=>cases hc
 | agg cs=>cases hc
 | j8 cs=>cases hc
 | di f cs=>cases hc
 | jE v=>cases hc
 | aS v =>
  obtain⟨y,h1,h2⟩:=Rd.tP (lv h.1) h.2
  simp only[a5L,a5R] at h1
  subst h1
  exact⟨wR h2,HD h2⟩
 | nil=>rw[show x=_ from h];exact⟨rfl,rfl⟩
 | fX v=>obtain⟨b,o,cs,rfl,_⟩:=h;exact⟨rfl,rfl⟩
 | ptr i o=>obtain⟨b,_,rfl,_⟩:=h;exact⟨rfl,rfl⟩
 | row i=>obtain⟨_,_,a,n,m,rfl⟩:=h;exact⟨rfl,rfl⟩
 | aB i=>obtain⟨_,_,_,a,n,m,rfl⟩:=h;exact⟨rfl,rfl⟩
 | sub i k o z=>cases hc
 | eH i k o z=>cases hc
 | ei i k o=>obtain⟨b,n,cap,e,τ,xs,_,_,_,rfl⟩:=h;exact⟨rfl,rfl⟩
 | fn f=>rw[show x=_ from h];exact⟨rfl,rfl⟩
 | mp i=>obtain⟨_,_,b,rfl⟩:=h;exact⟨rfl,rfl⟩
theorem eI.cells{S:Nat->Prop}{v:TV}{x:Value}(h:eI w S v x):Rd w S v.aK x.cells.toList:=by
 obtain⟨τ,y⟩:=v
 cases τ with
 | st s =>
  obtain⟨cs,rfl,h⟩:=h
  show Rd w S (s.aK y) _
  simpa [Value.cells] using h
 | _ =>
  obtain⟨z,h1,h2⟩:=Rd.tP (lv rfl) h
  simp only[a5L,a5R] at h1
  subst h1
  rw[HD h2]
  exact h
theorem eI.mk_{S:Nat->Prop}{v:TV}{cs:List Value}(h:Rd w S v.aK cs):eI w S v (DW v.τ cs):=by
 obtain⟨τ,y⟩:=v
 cases τ with
 | st s=>exact⟨cs,rfl,h⟩
 | _ =>
  obtain⟨z,rfl,h2⟩:=Rd.tP (lv rfl) h
  exact h
def SX(G:Gh)(lk:Nat->Option av)(b:Nat):Prop:=G.S b\/(∃ id e τ xs,lk id=some (.row e τ xs)/\dS (G.η id)=some b)\/∃ id τ xs,lk id=some (.aB τ xs)/\b∈G.φ id
theorem bn.Vq{c:Ctx}{G:Gh}{sl:Nat->AV}{n:Nat}{lk:Nat->Option av}{a:Act}{w:World}(h:bn c G sl n lk a w):oE w (SX G lk) :=
 ⟨λ b q=>by
  rcases q with hb|⟨id,e,τ,ys,aW,hb⟩|⟨id,τ,ys,aW,hb⟩
  .exact h.dX b hb
  .exact (h.place id _ b aW hb).2.2
  .exact (h.aT.pl id _ _ b aW hb).2.2.1,h.Wk.2.mono (λ _ q => .inl q) λ _ _=>rfl⟩
theorem SX.of{b:Nat}(h:G.S b):SX G lk b := .inl h
theorem Vh{id:Nat}{e:TypeId}{τ:Ty}{xs:List τ.den}(ho:OR c G lk w id (.row e τ xs))(aW:lk id=some (.row e τ xs)):Rd w (SX G lk) (Ty.aK (.slice τ) xs) [G.η id]:=by
 obtain⟨l,h1,h2,h3⟩:=ho
 rcases h1.2 with ⟨hv,hn⟩|⟨g,cap,cur,hv,_,hh,K8,TW,mD,XO⟩
 .have hx:xs=[]:=a6I hn
  subst hx
  exact⟨none,0,by simp[hv],by simp,by simp[maxLen],by simp, .inl rfl⟩
 .refine⟨some ⟨g,0,none⟩,cap,by simp[hv],by simpa using K8,TW,by simpa using h3,?_⟩
  refine .inr ⟨g,0,rfl, .inr (.inl ⟨id,e,τ,xs,aW,by rw[hv];rfl⟩),?_⟩
  refine dA.row _ g 0 (h2.aM (λ _ h=>SX.of h) (λ _ _=>rfl)) λ j v hj=>?_
  have:=h1.cells (g:=g) (by rw[hv];rfl) j v hj
  rw[a7j] at this
  exact this
theorem km.rd{S:Nat->Prop}{η:Value}{τ:Ty}{xs:List τ.den}{fp:List Nat}(h:km w η τ xs fp){x:Value}{l:List Value}(hx:η = .tuple (x::l).toArray)(hS:∀ b∈fp,S b):Rd w S (Ty.aK (.slice τ) xs) [x]:=by
 obtain⟨v,l',a,cap,h1,h2,h3,h4,h5,h6⟩:=h
 rw[hx] at h1
 simp only[a7h,a8s,a5L] at h1
 obtain⟨rfl,rfl⟩:=h1
 refine⟨a,cap,by simp[h2],by simpa using h3,h4,by simpa using h5,?_⟩
 rcases h6 with ⟨rfl,_,_⟩|⟨b,f,t,rfl,rfl,k1,_,k2⟩
 .exact .inl rfl
 .exact .inr ⟨b,0,rfl,hS b (by simp),bQ.rd _ (p:=[]) (by simpa using k1) k2 λ b hb=>hS b (by simp[hb])⟩
theorem YP(vj:EP c G lk w){id:Nat}{τ:Ty}{xs:List τ.den}{x:Value}(aW:lk id=some (.aB τ xs))(hx:C1 c G lk w (.aB id) x):Rd w (SX G lk) (Ty.aK (.slice τ) xs) [x]:=by
 obtain⟨_,l,h2,_⟩:=hx
 exact (vj.tr id τ xs aW).rd h2 λ b hb => .inr (.inr ⟨id,τ,xs,aW,hb⟩)
theorem a1x(vj:EP c G lk w)(mT:∀ id o,lk id=some o->OR c G lk w id o){lk':Nat->Option av}(cu:∀ id o,lk' id=some o->lk id=some o){τ:Ty}{v:AV}{x:Value}{y:τ.den}(h:lF lk' τ v=some y)
  (hv:C1 c G lk w v x):Rd w (SX G lk) (τ.aK y) [x]:=by
 cases v with
 | aS u =>
  have e:=TV.bd h
  subst e
  exact Rd.aM (λ _ h=>SX.of h) (λ _ _=>rfl) _ hv.2
 | nil =>
  cases τ with
  | slice t =>
   simp only[lF,a5E] at h
   subst h
   exact⟨none,0,by rw[show x=_ from hv];rfl,by simp,by simp[maxLen],by simp, .inl rfl⟩
  | _=>cases h
 | row id =>
  simp only[lF] at h
  split at h
  .rename_i e aZ xs hl
   have e1:=TV.bd h
   cases e1
   have sT:=cu _ _ hl
   rw[hv.1]
   exact Vh (mT _ _ sT) sT
  .cases h
 | aB id =>
  simp only[lF] at h
  split at h
  .rename_i aZ xs hl
   have e1:=TV.bd h
   cases e1
   exact YP vj (cu _ _ hl) hv
  .cases h
 | _=>cases h
theorem Y4{lk':Nat->Option av}(l6:∀ id e τ xs,lk' id≠some (.row e τ xs))(K9:∀ id τ xs,lk' id≠some (.aB τ xs)){τ:Ty}{v:AV}{x:Value}{y:τ.den}(h:lF lk' τ v=some y)(hv:C1 c G lk w v x):Rd w G.S (τ.aK y) [x]:=by
 cases v with
 | aS u =>
  have e:=TV.bd h
  subst e
  exact hv.2
 | nil =>
  cases τ with
  | slice t =>
   simp only[lF,a5E] at h
   subst h
   exact⟨none,0,by rw[show x=_ from hv];rfl,by simp,by simp[maxLen],by simp, .inl rfl⟩
  | _=>cases h
 | row id =>
  simp only[lF] at h
  split at h
  .rename_i hl
   exact absurd hl (l6 _ _ _ _)
  .cases h
 | aB id =>
  simp only[lF] at h
  split at h
  .rename_i hl
   exact absurd hl (K9 _ _ _)
  .cases h
 | _=>cases h
theorem LG{τ:Ty}{v:AV}{x:Value}{y:τ.den}(h:lF (λ _=>none) τ v=some y)(hv:C1 c G lk w v x):Rd w G.S (τ.aK y) [x]:=by
 cases v with
 | aS u =>
  have e:=TV.bd h
  subst e
  exact hv.2
 | nil =>
  cases τ with
  | slice t =>
   simp only[lF,a5E] at h
   subst h
   exact⟨none,0,by rw[show x=_ from hv];rfl,by simp,by simp[maxLen],by simp, .inl rfl⟩
  | _=>cases h
 | _=>cases h
theorem Kj{lk':Nat->Option av}{R:TV->Value->Prop}{Q:AV->Value->Prop}(hR:∀ t v x y,lF lk' t v=some y->Q v x->R ⟨t,y⟩ x):∀ {cs:List AV} {ts:List Ty} {l:List TV} {vs:List Value},Mb lk' cs ts=some l->aN Q cs vs->aN R l vs
 | [],[],l,vs,h,k=>by
  simp only[Mb,a5E] at h
  subst h
  match vs,k with
  | [],_=>trivial
 | v::cs,t::ts,l,vs,h,k=>by
  simp only[Mb] at h
  split at h
  .rename_i x hx
   split at h
   .rename_i r hr
    simp only[a5E] at h
    subst h
    match vs,k with
    | u::us,k=>exact⟨hR _ _ _ _ hx k.1,Kj hR hr k.2⟩
   .cases h
  .cases h
 | [],_::_,_,_,h,_=>by cases h
 | _::_,[],_,_,h,_=>by cases h
theorem ER{S:Nat->Prop}{lk':Nat->Option av}(h1:∀ τ v x (y:τ.den),lF lk' τ v=some y->C1 c G lk w v x->Rd w S (τ.aK y) [x])(hS:∀ b,G.S b->S b)
  {τ:Ty} {v:AV} {x:Value} {y:τ.den} (h:AU lk' τ v=some y) (hv:VR c G lk w v x):eI w S ⟨τ,y⟩ x:=by
 have tJ:∀ (Ao:∀ cs,v ≠ .agg cs),lF lk' τ v=some y->eI w S ⟨τ,y⟩ x:=by
  intro Ao ha
  cases v with
  | aS u =>
   have e:=TV.bd ha
   subst e
   exact eI.mono (G:=G) (G':=⟨S,G.η,G.φ⟩) hv hS (λ _ _=>rfl)
  | nil =>
   have:=h1 τ .nil x y ha hv
   cases τ with
   | st s=>cases ha
   | _=>exact this
  | row i =>
   have:=h1 τ (.row i) x y ha hv
   cases τ with
   | st s =>
    simp only[lF] at ha
    split at ha
    .have e:=TV.bd ha
     cases e
    .cases ha
   | _=>exact this
  | aB i =>
   have:=h1 τ (.aB i) x y ha hv
   cases τ with
   | st s =>
    simp only[lF] at ha
    split at ha
    .have e:=TV.bd ha
     cases e
    .cases ha
   | _=>exact this
  | agg cs=>exact absurd rfl (Ao cs)
  | _=>cases ha
 cases v with
 | agg cs =>
  cases τ with
  | st s =>
   simp only[AU] at h
   split at h
   .rename_i l hl
    obtain⟨vs,rfl,zG⟩:=hv
    refine⟨vs,rfl,?_⟩
    rw[aR.cr,aR.oY h]
    exact dq.vU.2 (Kj (λ t u z k hk hz=>h1 t u z k hk hz) hl zG)
   .cases h
  | _=>cases h
 | _=>exact tJ (by intro cs;simp) h
theorem y6(vj:EP c G lk w)(mT:∀ id o,lk id=some o->OR c G lk w id o){lk':Nat->Option av}(cu:∀ id o,lk' id=some o->lk id=some o){τ:Ty}{v:AV}{x:Value}{y:τ.den}(h:AU lk' τ v=some y)
  (hv:VR c G lk w v x):eI w (SX G lk) ⟨τ,y⟩ x :=
 ER (λ τ v x y h hv=>a1x vj mT cu h hv) (λ _ h=>SX.of h) h hv
theorem xH{lk':Nat->Option av}(l6:∀ id e τ xs,lk' id≠some (.row e τ xs))(K9:∀ id τ xs,lk' id≠some (.aB τ xs)){τ:Ty}{v:AV}{x:Value}{y:τ.den}(h:AU lk' τ v=some y)(hv:VR c G lk w v x):eI w G.S ⟨τ,y⟩ x :=
 ER (λ τ v x y h hv=>Y4 l6 K9 h hv) (λ _ h=>h) h hv
theorem Gt{τ:Ty}{v:AV}{x:Value}{y:τ.den}(h:AU (λ _=>none) τ v=some y)(hv:VR c G lk w v x):eI w G.S ⟨τ,y⟩ x :=
 ER (λ τ v x y h hv=>LG h hv) (λ _ h=>h) h hv
theorem xk{τ:Ty}{v:AV}{x:Value}{new:List AV}(h:cellsOf τ v=some new)(hv:VR c G lk w v x) :
  aN (C1 c G lk w) new x.cells.toList/\(∀ u∈x.cells.toList,u.oneCell'=true)/\new.length=τ.size:=by
 have one:v.cell=true->new=[v]->τ.size=1->aN (C1 c G lk w) new x.cells.toList/\(∀ u∈x.cells.toList,u.oneCell'=true)/\new.length=τ.size:=by
  intro hc hn hs
  subst hn
  have h1:=hv.Py hc
  obtain⟨h2,h3⟩:=h1.leaf hc
  rw[h3]
  exact⟨⟨h1,trivial⟩,by simpa using h2,by simp[hs]⟩
 cases τ with
 | st s =>
  simp only[cellsOf] at h
  split at h
  .rename_i u
   split at h
   .rename_i y hy
    simp only[a5E] at h
    subst h
    have e:=TV.bd hy
    subst e
    obtain⟨cs,rfl,hr⟩:=hv
    rw[aR.cr] at hr
    have ha:=dq.vU.1 hr
    refine⟨?_,?_,by simp[Ty.size,aR.jT]⟩
    .simp only[Value.cells]
     refine aN.eB _ (ha.imp λ u z hu hz=>⟨?_,hz⟩)
     have:=aR.qk s y u hu
     obtain⟨aZ,z'⟩:=u
     cases aZ with
     | st s'=>simp[TV.aK,Ty.aK,aR.cr,D.leaf] at this
     | _=>rfl
    .simp only[Value.cells]
     intro u hu
     obtain⟨i,hi,Xw⟩:=a7p hu
     have hlen:=ha.length
     obtain⟨b,hb,Qo⟩:=ha.at_ i (s.cells y)[i] (a5V (by omega))
     have cw:b=u:=by
      have:cs[i]?=some u:=by rw[a5V hi,Xw]
      rw[this] at hb;exact (a6Z hb).symm
     subst cw
     obtain⟨z,h1,h2⟩:=Rd.tP (aR.qk s y _ (a8r _)) Qo
     simp only[a5L,a5R] at h1
     subst h1
     exact wR h2
   .cases h
  .rename_i cs
   split at h
   .rename_i hb
    simp only[a5E] at h
    subst h
    simp only[a5I] at hb
    obtain⟨l,rfl,hl⟩:=hv
    refine⟨by simpa [Value.cells] using hl,?_,by simpa [Ty.size] using Nat.eq_of_beq_eq_true hb.1⟩
    simp only[Value.cells]
    intro u hu
    obtain⟨i,hi,Xw⟩:=a7p hu
    have hlen:=hl.length
    obtain⟨b,cw,Qo⟩:=hl.at_ i cs[i] (a5V (by omega))
    have hbu:b=u:=by
     have:l[i]?=some u:=by rw[a5V hi,Xw]
     rw[this] at cw;exact (a6Z cw).symm
    subst hbu
    exact (Qo.leaf (a6i.1 hb.2 _ (a8r _))).1
   .cases h
  .cases h
 | int k =>
  simp only[cellsOf] at h
  split at h
  .rename_i hc;simp only[a5E] at h;exact one hc h.symm rfl
  .cases h
 | bool =>
  simp only[cellsOf] at h
  split at h
  .rename_i hc;simp only[a5E] at h;exact one hc h.symm rfl
  .cases h
 | str =>
  simp only[cellsOf] at h
  split at h
  .rename_i hc;simp only[a5E] at h;exact one hc h.symm rfl
  .cases h
 | ptr =>
  simp only[cellsOf] at h
  split at h
  .rename_i hc;simp only[a5E] at h;exact one hc h.symm rfl
  .cases h
 | mv t =>
  simp only[cellsOf] at h
  split at h
  .rename_i hc;simp only[a5E] at h;exact one hc h.symm rfl
  .cases h
 | slice t =>
  simp only[cellsOf] at h
  split at h
  .rename_i hc;simp only[a5E] at h;exact one hc h.symm rfl
  .cases h
theorem BN{cs:List AV}{l:List Value}(hl:aN (C1 c G lk w) cs l){off:Nat}{τ:Ty}{u:AV}(h:C4 cs off τ=some u) :
  VR c G lk w u (DW τ ((l.drop off).take τ.size))/\((l.drop off).take τ.size).length=τ.size/\off+τ.size<=l.length:=by
 have hlen:=hl.length
 have one:τ.size=1->(∀ s,τ ≠ .st s)->cs[off]?=some u->VR c G lk w u (DW τ ((l.drop off).take τ.size))/\((l.drop off).take τ.size).length=τ.size/\off+τ.size<=l.length:=by
  intro hs cp hu
  obtain⟨x,hx,hr⟩:=hl.at_ off u hu
  have bF:off<l.length:=(a5W.1 hx).1
  have he:(l.drop off).take 1=[x]:=by
   rw[a7H bF]
   have:=(a5W.1 hx).2
   simp[this]
  rw[hs,he]
  refine⟨?_,rfl,by omega⟩
  have:DW τ [x]=x:=by cases τ<;>first|rfl|exact absurd rfl (cp _)
  rw[this]
  exact hr.hJ
 cases τ with
 | st s =>
  simp only[C4] at h
  split at h
  .rename_i hb
   simp only[a5E] at h
   subst h
   have hle:=a6H hb
   refine⟨⟨_,rfl,(hl.drop off).take s.size⟩,?_,?_⟩
   .simp only[Ty.size,a6R,a6S];omega
   .simp only[Ty.size];omega
  .cases h
 | int k=>exact one rfl (by intro s;simp) h
 | bool=>exact one rfl (by intro s;simp) h
 | str=>exact one rfl (by intro s;simp) h
 | slice t=>exact one rfl (by intro s;simp) h
 | mv t=>exact one rfl (by intro s;simp) h
 | ptr=>exact one rfl (by intro s;simp) h
theorem bP.part{bk o:Nat}{l:List Value}(h:bP w bk o l)(off n:Nat):bP w bk (o+off) ((l.drop off).take n):=λ j v hj=>by
 rw[a6Y] at hj
 split at hj
 .rw[a7y] at hj
  have:=h (off+j) v hj
  rwa [<-a8z] at this
 .cases hj
theorem bP.of_heap{bk:Nat}{l:List Value}{t:TypeId}{fr:Nat×Nat}(h:w.heap[bk]?=some (.cells l.toArray t fr)):bP w bk 0 l:=λ j v hj=>by
 simp only[World.cell?,h,a6X,Option.isSome_none]
 simpa using hj
theorem Up{S:Nat->Prop}{v u:TV}{off:Nat}{τ:Ty}(h:v.part off τ=some u){l:List Value}(hl:Rd w S v.aK l) :
  u.τ=τ/\((l.drop off).take τ.size).length=τ.size/\Rd w S u.aK ((l.drop off).take τ.size):=by
 have hlen:=Rd.length _ hl
 rw[show v.aK=v.τ.aK v.x from rfl,Ty.cK] at hlen
 unfold TV.part at h
 split at h
 .rename_i hb
  simp only[a5I] at hb
  simp only[a5E] at h
  subst h
  have h0:=a5F hb.1
  have h1:=a6f hb.2
  subst h0
  subst h1
  rw[a8c,a6O (by omega)]
  exact⟨rfl,hlen,hl⟩
 .split at h
  .rename_i z hz
   split at h
   .rename_i hb
    simp only[a5E] at h
    subst h
    have h1:=a6f hb
    subst h1
    obtain⟨aZ,y⟩:=v
    have key:∀ (x:Value),l[off]?=some x->z.τ.agg=false->Rd w S z.aK [x]->z.τ=z.τ/\((l.drop off).take z.τ.size).length=z.τ.size/\Rd w S z.aK ((l.drop off).take z.τ.size):=by
     intro x hx ha hr
     have bF:off<l.length:=(a5W.1 hx).1
     have he:(l.drop off).take 1=[x]:=by
      rw[a7H bF]
      have:=(a5W.1 hx).2
      simp[this]
     rw[Ty.lD ha,he]
     exact⟨rfl,rfl,hr⟩
    cases aZ with
    | st s =>
     simp only[TV.cells] at hz
     rw[show TV.aK ⟨.st s,y⟩=s.aK y from rfl,aR.cr] at hl
     obtain⟨x,hx,hr⟩:=(dq.vU.1 hl).at_ off z hz
     refine key x hx ?_ hr
     have:=aR.qk s y z (a6F hz)
     obtain⟨a5a,z'⟩:=z
     cases a5a with
     | st s'=>simp[TV.aK,Ty.aK,aR.cr,D.leaf] at this
     | _=>rfl
    | _ =>
     simp only[TV.cells] at hz
     cases off with
     | zero =>
      simp at hz
      subst hz
      obtain⟨x,rfl,_⟩:=Rd.tP (lv rfl) hl
      exact key x rfl rfl hl
     | succ k=>simp at hz
   .cases h
  .cases h
theorem Wi{id:Nat}{e:TypeId}{τ:Ty}{xs:List τ.den}(ho:OR c G lk w id (.row e τ xs)){b n cap:Nat}(gQ:G.η id = .slice (some ⟨b,0,none⟩) n cap){i:Nat}(hi:i<xs.length) :
  ∃ cs,cs.length=τ.size/\bP w b (i * τ.size) cs/\Rd w G.S (τ.aK (xs.getD i τ.zero)) cs:=by
 obtain⟨l,h1,h2,h3⟩:=ho
 have cz:∀ d∈xs.map τ.aK,d.size=τ.size:=by
  intro d hd
  obtain⟨y,_,rfl⟩:=a5K.1 hd
  exact Ty.cK τ y
 have VT:=dA.length _ h2 cz
 have Qc:=dA.at_ _ h2 cz i (τ.aK (xs.getD i τ.zero)) (by simp[List.getD,hi])
 have hlen:=Rd.length _ Qc
 rw[Ty.cK] at hlen
 refine⟨_,hlen,?_,Qc⟩
 have hc:bP w b 0 l:=λ j v hj=>by
  have:=h1.cells (g:=b) (by rw[gQ];rfl) j v hj
  rwa [a7j] at this
 have:=hc.part (i * τ.size) τ.size
 rwa [a6X] at this
theorem rk(mT:∀ id o,lk id=some o->OR c G lk w id o){lk':Nat->Option av}(cu:∀ id o,lk' id=some o->lk id=some o){τ:Ty}{v u:AV}{x:Value}(h:sG lk' τ v=some u)(hv:VR c G lk w v x) :
  ∃ b o cs,x = .pointer (some ⟨b,o,none⟩)/\bP w b o cs/\cs.length=τ.size/\VR c G lk w u (DW τ cs):=by
 cases v with
 | fX z =>
  simp only[sG] at h
  split at h
  .rename_i hb
   simp only[a5E] at h
   subst h
   have e:=a6f hb
   subst e
   obtain⟨b,o,cs,h1,h2,h3,h4⟩:=hv
   refine⟨b,o,cs,h1,h3,?_,eI.mk_ h4⟩
   rw[Rd.length _ h4]
   exact Ty.cK _ _
  .cases h
 | ptr id off =>
  simp only[sG] at h
  split at h
  .rename_i cs hl
   obtain⟨b,h1,h2,h3⟩:=hv
   obtain⟨b',l,t,k1,k2,k3⟩:=mT _ _ (cu _ _ hl)
   rw[h1] at k1
   simp only[a8B,a5E,a7K,a5R] at k1
   subst k1
   obtain⟨m1,m2,m3⟩:=BN k3 h
   refine⟨b,off,_,h2,?_,m2,m1⟩
   have:=(bP.of_heap k2).part off τ.size
   rwa [a6X] at this
  .cases h
 | ei id i off =>
  simp only[sG] at h
  split at h
  .rename_i e aZ xs hl
   split at h
   .rename_i z hz
    simp only[a5E] at h
    subst h
    obtain⟨b,n,cap,e1,OH,OG,h1,h2,h3,h4⟩:=hv
    have sT:=cu _ _ hl
    rw[sT] at h2
    simp only[a5E,av.row.injEq] at h2
    obtain⟨rfl,rfl,h2⟩:=h2
    have h2:=a9q h2
    subst h2
    obtain⟨cs,m1,m2,m3⟩:=Wi (mT _ _ sT) h1 h3
    obtain⟨p1,p2,p3⟩:=Up (v:=⟨aZ,xs.getD i aZ.zero⟩) hz m3
    subst p1
    exact⟨b,_,_,h4,m2.part off _,p2,eI.mk_ p3⟩
   .cases h
  .cases h
 | _=>cases h
end
end Go.Proofs.YtnehkikdlnmebaaGreatDoor

namespace Go.Proofs.YtnehkikdlnmebaaGreatDoor
theorem eA{k:IntKind}{n:Int}(h:cq k n):k.min<=n/\n<=k.max:=by
 cases k<;>first
  | exact h
  | (simp only[cq,ag] at h;simp only[IntKind.min,IntKind.max,IntKind.signed,IntKind.bits,a7O];exact⟨by omega,by omega⟩)
theorem tE{k:IntKind}{n:Int}(h:k.min<=n/\n<=k.max):k.wrap n=n:=by
 cases k<;>simp[IntKind.min,IntKind.max,IntKind.signed,IntKind.bits] at h<;>simp[IntKind.wrap,IntKind.signed,IntKind.bits]<;>(try split)<;>omega
theorem Og(n:Int):IntKind.u64.min<=IntKind.u64.wrap n/\IntKind.u64.wrap n<=IntKind.u64.max:=by
 simp[IntKind.min,IntKind.max,IntKind.signed,IntKind.bits,IntKind.wrap];omega
theorem Ul{k:IntKind}{a:Int}(h0:0<=a)(h:k.min<=a/\a<=k.max):a.toNat<2 ^ k.bits:=by
 cases k<;>simp[IntKind.min,IntKind.max,IntKind.signed,IntKind.bits] at h ⊢<;>omega
theorem Vz{k:IntKind}{a b:Int}(ha0:0<=a)(BT:0<=b)(ha:k.min<=a/\a<=k.max)(hb:k.min<=b/\b<=k.max) :
  k.wrap ((BitVec.ofInt k.bits a &&& BitVec.ofInt k.bits b).toNat:Int)=((a.toNat &&& b.toNat:Nat):Int)/\k.min<=((a.toNat &&& b.toNat:Nat):Int)/\((a.toNat &&& b.toNat:Nat):Int)<=k.max:=by
 have h1:∀ x:Int,0<=x->k.min<=x/\x<=k.max->(BitVec.ofInt k.bits x).toNat=x.toNat:=λ x h0 hx=>by
  obtain⟨n,rfl⟩:=Int.eq_ofNat_of_zero_le h0
  have:=Ul h0 hx
  simp only[a5X] at this ⊢
  rw[show BitVec.ofInt k.bits (n:Int)=BitVec.ofNat k.bits n from BitVec.ofInt_natCast ..,BitVec.toNat_ofNat]
  exact Nat.mod_eq_of_lt this
 have hle:((a.toNat &&& b.toNat:Nat):Int)<=a:=by
  have := @Nat.and_le_left a.toNat b.toNat
  omega
 have hr:k.min<=((a.toNat &&& b.toNat:Nat):Int)/\((a.toNat &&& b.toNat:Nat):Int)<=k.max:=by
  refine⟨?_,by omega⟩
  have:k.min<=0:=by cases k<;>decide
  omega
 rw[BitVec.toNat_and,h1 a ha0 ha,h1 b BT hb]
 exact⟨tE hr,hr⟩
theorem Ma{op:BinOp}{k yk:IntKind}{a b r:Int}{p:Vc}(h:arith op k a b=some (p,r))(hp:p.ok)(hk:op = .shl\/op = .shr\/yk=k)(P:Program)(t:TypeId)(w:World) :
  (binOp op t (.int k a) (.int yk b)).run P w = .ok (.int k r) w/\k.min<=r/\r<=k.max:=by
 cases op<;>simp only[arith] at h<;>try cases h
 case add =>
  have hk:yk=k:=by simpa using hk
  subst hk
  split at h<;>simp only[a5E,a5H] at h<;>obtain⟨rfl,rfl⟩:=h
  .exact⟨by simp[binOp_add,Op.intArith],Og _⟩
  .have:=eA hp
   exact⟨by simp[binOp_add,Op.intArith,tE this],this⟩
 case sub =>
  have hk:yk=k:=by simpa using hk
  subst hk
  have:=eA hp
  exact⟨by simp[binOp_sub,Op.intArith,tE this],this⟩
 case mul =>
  have hk:yk=k:=by simpa using hk
  subst hk
  split at h<;>simp only[a5E,a5H] at h<;>obtain⟨rfl,rfl⟩:=h
  .exact⟨by simp[binOp_mul,Op.intArith],Og _⟩
  .have:=eA hp
   exact⟨by simp[binOp_mul,Op.intArith,tE this],this⟩
 case quo =>
  have hk:yk=k:=by simpa using hk
  subst hk
  have:=eA hp.2
  exact⟨by simp[binOp_quo,Op.intDiv,hp.1,tE this],this⟩
 case rem =>
  have hk:yk=k:=by simpa using hk
  subst hk
  have:=eA hp.2
  exact⟨by simp[binOp_rem,Op.intDiv,hp.1],this⟩
 case and =>
  have hk:yk=k:=by simpa using hk
  subst hk
  obtain⟨h1,h2⟩:=Vz hp.1 hp.2.1 (eA hp.2.2.1) (eA hp.2.2.2)
  exact⟨by simp only[binOp_and,Op.intBits,a6e,h1],h2⟩
 case shl =>
  have Ox:b<(k.bits:Int):=hp.2.1
  have:=eA hp.2.2
  have hb:min b.toNat k.bits=b.toNat:=by omega
  exact⟨by simp[binOp_shl,Op.shift,Int.not_lt.2 hp.1,hb,tE this],this⟩
 case shr =>
  have Ox:b<(k.bits:Int):=hp.2.1
  have:=eA hp.2.2
  have hb:min b.toNat k.bits=b.toNat:=by omega
  exact⟨by simp[binOp_shr,Op.shift,Int.not_lt.2 hp.1,hb],this⟩
theorem Re(k:IntKind)(n:Int):k.min<=k.wrap n/\k.wrap n<=k.max:=by
 cases k<;>simp[IntKind.min,IntKind.max,IntKind.signed,IntKind.bits,IntKind.wrap]<;>omega
theorem Rq{wr:Bool}{op:BinOp}{k yk:IntKind}{a b r:Int}{p:Vc}(h:PO wr op k a b=some (p,r))(hp:p.ok)(hk:op = .shl\/op = .shr\/yk=k)(P:Program)(t:TypeId)(w:World) :
  (binOp op t (.int k a) (.int yk b)).run P w = .ok (.int k r) w/\k.min<=r/\r<=k.max:=by
 unfold PO at h
 split at h
 .split at h
  .have hk:yk=k:=by simpa using hk
   subst hk
   simp only[a5E,a5H] at h
   obtain⟨rfl,rfl⟩:=h
   exact⟨by simp[binOp_add,Op.intArith],Re _ _⟩
  .have hk:yk=k:=by simpa using hk
   subst hk
   simp only[a5E,a5H] at h
   obtain⟨rfl,rfl⟩:=h
   exact⟨by simp[binOp_sub,Op.intArith],Re _ _⟩
  .have hk:yk=k:=by simpa using hk
   subst hk
   simp only[a5E,a5H] at h
   obtain⟨rfl,rfl⟩:=h
   exact⟨by simp[binOp_mul,Op.intArith],Re _ _⟩
  .exact Ma h hp hk P t w
 .exact Ma h hp hk P t w
theorem WX{op:BinOp}{k:IntKind}{a b:Int}{r:Bool}(h:cmp op a b=some r)(P:Program)(t:TypeId)(w:World) :
  (binOp op t (.int k a) (.int k b)).run P w = .ok (.bool r) w:=by
 cases op<;>simp only[cmp,a5E] at h<;>try cases h
 .simp only[binOp_eql,a6e]
  congr 2
 .simp only[binOp_neq,a6e]
  congr 2
 .simp[binOp_lss]
 .simp[binOp_leq]
 .simp[binOp_gtr]
 .simp[binOp_geq]
section
variable {c:Ctx} {G:Gh} {lk:Nat->Option av} {w:World}
theorem OU(a b:ByteArray):(a.toList == b.toList)=decide (a.data.toList=b.data.toList):=by
 rw[a9G,a9G]
 rw[a8L]
 simp
theorem To(hE:bJ c.P c.E){op:BinOp}{T:TypeId}{u v r:AV}{x y:Value}{p:Vc}{wr:Bool}(ox oy:Operand)
  (h:Tn (match ae c.E.ty T with
   | some (.bool,_)=>true
   | _=>false) wr op u v=some (p,r)) (hp:p.ok) (hu:VR c G lk w u x) (hv:VR c G lk w v y) :
  ∃ z,(do eqGuard op T ox oy x y;binOp op T x y:Sem Value).run c.P w = .ok z w/\VR c G lk w r z:=by
 unfold Tn at h
 split at h
 .rename_i k a k' b
  obtain⟨h1,h2⟩:=hu
  obtain⟨h3,h4⟩:=hv
  simp only[a5L,a5R] at h1 h3
  subst h1 h3
  simp only[eqGuard_at_int,a6d,a6e,a5S]
  split at h
  .rename_i p' r' har
   have key:(op = .shl\/op = .shr\/k'=k)->p'.ok->∃ z,(binOp op T (.int k a) (.int k' b)).run c.P w = .ok z w/\VR c G lk w (.aS ⟨.int k,r'⟩) z:=λ hk Qn=>by
    obtain⟨h5,h6⟩:=Rq har Qn hk c.P T w
    exact⟨_,h5,rfl,h6⟩
   split at h
   .simp only[a5E,a5H] at h
    obtain⟨rfl,rfl⟩:=h
    exact key (.inl rfl) hp
   .simp only[a5E,a5H] at h
    obtain⟨rfl,rfl⟩:=h
    exact key (.inr (.inl rfl)) hp
   .split at h
    .rename_i hk
     simp only[a5E,a5H] at h
     obtain⟨rfl,rfl⟩:=h
     exact key (.inr (.inr (a6f hk).symm)) hp
    .cases h
  .split at h
   .rename_i hk
    have hk:=a6f hk
    subst hk
    split at h
    .rename_i cc hc
     simp only[a5E,a5H] at h
     obtain⟨rfl,rfl⟩:=h
     exact⟨_,WX hc c.P T w,rfl⟩
    .cases h
   .cases h
 .rename_i a b
  have hu:[x]=[.bool a]:=hu
  have hv:[y]=[.bool b]:=hv
  simp only[a5L,a5R] at hu hv
  subst hu hv
  split at h
  .rename_i hT
   split at hT
   .rename_i r' hl
    have hb:=hE.bool hl
    split at h
    .simp only[a5E,a5H] at h
     obtain⟨rfl,rfl⟩:=h
     exact⟨.bool (a == b),by simp[binOp,run_equal_bool w T a b hb,eqGuard_at_bool],rfl⟩
    .simp only[a5E,a5H] at h
     obtain⟨rfl,rfl⟩:=h
     exact⟨.bool !(a == b),by simp[binOp,run_equal_bool w T a b hb,eqGuard_at_bool],rfl⟩
    .cases h
   .cases hT
  .cases h
 .rename_i a b
  obtain⟨s,h1,h2,h3⟩:=hu
  obtain⟨s',h4,h5,h6⟩:=hv
  simp only[a5L,a5R] at h1 h4
  subst h1 h4
  subst h2 h5
  split at h
  .simp only[a5E,a5H] at h
   obtain⟨rfl,rfl⟩:=h
   exact⟨.bool (s.toList == s'.toList),by simp[binOp,Op.stringOp,a9d],by rw[OU];rfl⟩
  .simp only[a5E,a5H] at h
   obtain⟨rfl,rfl⟩:=h
   exact⟨.bool (!(s.toList == s'.toList)),by simp[binOp,Op.stringOp,a9d],by rw[OU];rfl⟩
  .simp only[a5E,a5H] at h
   obtain⟨rfl,rfl⟩:=h
   have cz:s.size+s'.size<=140737488355328:=by
    have:=hp
    simp only[a6y] at this
    exact this
   have hs2:(s++s').size=s.size+s'.size:=ByteArray.size_append
   refine⟨.string (s++s'),?_,s++s',rfl,by simp,by rw[hs2];exact cz⟩
   have:¬ (((s.size+s'.size:Nat):Int)>IntKind.i64.max):=by rw[IntKind.max_i64];omega
   simp only[a9d,a6d,a6e,a5S,binOp,Op.stringOp,a5J this]
  .cases h
 .cases h
theorem lX(hE:bJ c.P c.E){T:TypeId}{n:aR}{b e:Nat}(h:ae c.E.ty T=some (.st n,b,e)){bk o:Nat}{i:Nat}(hi:i<n.gV.length)(w:World) :
  (Instr.fieldAt T (.pointer (some ⟨bk,o,none⟩)) i).run c.P w = .ok (.pointer (some ⟨bk,o+n.fH i,none⟩)) w:=by
 obtain⟨fs,h1,h2,h3⟩:=hE.st h
 have hf:fs[i]?=some fs[i]:=a6M (by omega)
 obtain⟨t,b',e',h4,h5,h6⟩:=h3 i _ hf
 have cz:=hE.sizeOf h5 w
 have h0:t.size≠0:=Nat.pos_iff_ne_zero.1 t.size_pos
 simp[Instr.fieldAt,a6x h1,hf,Instr.sureAddr,fieldPlace,cz,h0,a7j,h6]
theorem NU(hE:bJ c.P c.E){T:TypeId}{n:aR}{b e:Nat}(h:ae c.E.ty T=some (.st n,b,e)){l:List Value}{i:Nat}{t:Ty}(hi:n.gV[i]?=some t)
  (hl:n.fH i+t.size<=l.length) (w:World) :
  (Instr.field T (.agg l.toArray) i).run c.P w = .ok (DW t ((l.drop (n.fH i)).take t.size)) w:=by
 obtain⟨fs,h1,h2,h3⟩:=hE.st h
 have bF:i<fs.size:=by have:=(a5W.1 hi).1;omega
 have hf:fs[i]?=some fs[i]:=a6M bF
 obtain⟨t',b',e',h4,h5,h6⟩:=h3 i _ hf
 rw[hi] at h4
 simp only[a5E] at h4
 subst h4
 have cz:=hE.sizeOf h5 w
 have hag:=hE.isAgg h5 w
 simp only[Instr.field,a6d,a6x h1,a5S,hf,asAgg,part,hag,a6e]
 cases kR:t.agg with
 | true =>
  simp only[a7O,a6d,cz,a5S,a6e,h6]
  cases t<;>first|(cases kR;done)|skip
  simp only[DW,Result.ok.injEq,Value.agg.injEq,a5R]
  apply a9z
  simp[List.take_drop]
 | false =>
  have h1:=Ty.lD kR
  simp only[a6h,a9A,h6]
  have hx:l.toArray[n.fH i]?=some (l[n.fH i]'(by omega)):=by rw[List.getElem?_toArray];exact a5V (by omega)
  rw[hx]
  simp only[a6e,h1]
  have he:(l.drop (n.fH i)).take 1=[l[n.fH i]'(by omega)]:=by
   rw[a7H (by omega),a8S,a8d]
  rw[he]
  cases t<;>first|rfl|cases kR
end
end Go.Proofs.YtnehkikdlnmebaaGreatDoor

namespace Go.Proofs.YtnehkikdlnmebaaGreatDoor
section
variable {c:Ctx} {G:Gh} {lk:Nat->Option av} {w:World}
theorem UH(k:IntKind):k.min<=0/\0<=k.max:=by cases k<;>decide
theorem CW{τ:Ty}{v:Value}(h:vP τ v=true):C1 c G lk w (zeroCell τ) v:=by
 unfold vP at h
 split at h
 .simp only[a5I] at h
  have h1:=a6f h.1
  have h2:=a6f h.2
  subst h1 h2
  exact⟨rfl,rfl,UH _⟩
 .rename_i b
  cases b
  .exact⟨rfl,rfl⟩
  .cases h
 .rename_i s
  exact⟨rfl,s,rfl,List.isEmpty_iff.1 h,by simp[List.isEmpty_iff] at h;simp[ByteArray.size,h]⟩
 .rfl
 .exact⟨rfl,_,rfl⟩
 .cases h
theorem mq{τ:Ty}{z:Value}(h:xi τ z=true):aN (C1 c G lk w) (zeroCells τ) z.cells.toList:=by
 have key:∀ (ts:List Ty) (vs:List Value),IG ts vs=true->aN (C1 c G lk w) (ts.map zeroCell) vs:=by
  intro ts
  induction ts with
  | nil=>intro vs h;cases vs<;>first|trivial|cases h
  | cons t ts ih =>
   intro vs h
   cases vs with
   | nil=>cases h
   | cons v vs =>
    simp only[IG,a5I] at h
    exact⟨CW h.1,ih vs h.2⟩
 have one:∀ v,vP τ v=true->v.cells = #[v]:=by
  intro v hv
  unfold vP at hv
  split at hv<;>first|rfl|cases hv
 unfold xi at h
 split at h
 .rename_i s cs
  exact key _ _ h
 .cases h
 .rename_i aZ v h1 h2
  rw[one _ h]
  have:zeroCells τ=[zeroCell τ]:=by
   cases τ<;>first|rfl|(rename_i s;cases v<;>first|exact absurd rfl (h2 s rfl)|cases h)
  rw[this]
  exact⟨CW h,trivial⟩
theorem IH{S:Nat->Prop}{τ:Ty}{z:Value}(h:xi τ z=true):Rd w S (τ.aK τ.zero) z.cells.toList:=by
 have h1:=mq (c:=⟨{ funcs := #[],goVersion := "",platform := "",initOrder := "",godebug := "",types := #[],rt:=default,cutTypes := #[],globals := #[],inits := #[],main:=0 },{ ty:=[],Ut:=[],IV:=λ _ _=>none },w,λ _=>True,S,λ _=>none,λ _=>False,λ _=>none⟩) (G:=⟨S,λ _=>undef,λ _=>[]⟩) (lk:=λ _=>none) (w:=w) h
 have cell:∀ t x,C1 ⟨{ funcs := #[],goVersion := "",platform := "",initOrder := "",godebug := "",types := #[],rt:=default,cutTypes := #[],globals := #[],inits := #[],main:=0 },{ ty:=[],Ut:=[],IV:=λ _ _=>none },w,λ _=>True,S,λ _=>none,λ _=>False,λ _=>none⟩ ⟨S,λ _=>undef,λ _=>[]⟩ (λ _=>none) w (zeroCell t) x->Rd w S (t.aK t.zero) [x]:=by
  intro t x hx
  cases t with
  | slice t'=>exact LG (τ := .slice t') (v := .nil) rfl hx
  | _=>exact hx.2
 cases τ with
 | st s =>
  simp only[zeroCells] at h1
  show Rd w S (s.aK s.zero) _
  rw[aR.cr]
  have hz:(s.cells s.zero).map TV.aK=s.uV.map λ t=>t.aK t.zero:=by cases s<;>rfl
  rw[hz]
  have h2:=aN.of_map _ h1
  have:∀ (ts:List Ty) (vs:List Value),aN (λ t x=>Rd w S (t.aK t.zero) [x]) ts vs->dq w S (ts.map λ t=>t.aK t.zero) vs:=by
   intro ts
   induction ts with
   | nil=>intro vs h;cases vs<;>first|rfl|cases h
   | cons t ts ih =>
    intro vs h
    cases vs with
    | nil=>cases h
    | cons v vs=>exact⟨v,vs,rfl,h.1,ih vs h.2⟩
  exact this _ _ (h2.imp λ t x _ hx=>cell t x hx)
 | _ =>
  simp only[zeroCells] at h1
  match hc:z.cells.toList,h1 with
  | [x],h1=>exact cell _ _ h1.1
theorem MJ(off:Nat):∀ (xs:List Value) (k:Nat) (l:List Value),off+k+xs.length<=l.length ->
  (xs.zipIdx k).foldl (λ cs p=>cs.setIfInBounds (off+p.2) p.1) l.toArray=(l.take (off+k)++xs++l.drop (off+k+xs.length)).toArray
 | [],k,l,_=>by simp
 | x::xs,k,l,h=>by
  simp only[a5O] at h
  simp only[List.zipIdx_cons,a7k]
  have:=MJ off xs (k+1) (l.set (off+k) x) (by simp;omega)
  rw[List.setIfInBounds_toArray,this]
  congr 1
  have e:=list_seg_step l (off+k) x xs (by omega)
  simpa [Nat.add_assoc] using e
theorem I4(place:Nat->Option (Nat×Nat))(i off size:Nat)(v:Value)(rest:List (Nat×Value))(l:List Value)(hp:place i=some (off,size))(hs:v.cells.size=size)(hl:off+size<=l.length) :
  Instr.fill place l.toArray ((i,v)::rest)=Instr.fill place (l.take off++v.cells.toList++l.drop (off+size)).toArray rest:=by
 have hn:(decide (v.cells.size≠size)||decide (off+v.cells.size>l.toArray.size))=false:=by
  simp[hs];omega
 simp only[Instr.fill,hp,hn,a6h,a9A]
 congr 1
 rw[<-Array.foldl_toList,Array.toList_zipIdx]
 have:=MJ off v.cells.toList 0 l (by simp[hs];omega)
 simp only[a7D,a6y,hs] at this
 exact this
theorem EE{E:Env}{s:aR}{place:Nat->Option (Nat×Nat)}(hp:∀ i t,s.gV[i]?=some t->place i=some (s.fH i,t.size)) :
  ∀ {ps:List (Nat×AV)} {vs:List (Nat×Value)} {cs dJ:List AV} {l:List Value},partsOf E s cs ps=some dJ->aN (λ p q=>p.1=q.1/\VR c G lk w p.2 q.2) ps vs->aN (C1 c G lk w) cs l ->
   ∃ l',Instr.fill place l.toArray vs=some l'.toArray/\aN (C1 c G lk w) dJ l'
 | [],[],cs,dJ,l,h,_,hl=>by
  simp only[partsOf,a5E] at h
  subst h
  exact⟨l,rfl,hl⟩
 | (i,v)::ps,(j,x)::vs,cs,dJ,l,h,hv,hl=>by
  obtain⟨⟨yh,hx⟩,M5⟩:=hv
  have yh:i=j:=yh
  subst yh
  simp only[partsOf] at h
  split at h
  .rename_i τ kR
   split at h
   .rename_i new rH
    split at h
    .rename_i cs1 B4
     obtain⟨h1,_,h3⟩:=xk rH hx
     have hlen:=h1.length
     have VT:=hl.length
     unfold putCells at B4
     split at B4
     .rename_i hb
      have hb:=a6H hb
      simp only[a5E] at B4
      subst B4
      have cz:x.cells.size=τ.size:=by rw[<-h3,hlen];simp
      have BY:s.fH i+τ.size<=l.length:=by omega
      rw[I4 place i _ _ x vs l (hp i τ kR) cz BY]
      refine EE hp h M5 ?_
      rw[a6u,<-h3]
      exact (hl.take _).append (h1.append (hl.drop _))
     .cases B4
    .cases h
   .cases h
  .cases h
 | [],_::_,_,_,_,_,hv,_=>hv.elim
 | _::_,[],_,_,_,_,hv,_=>hv.elim
theorem Eh{τ:Ty}{place:Nat->Option (Nat×Nat)}(hp:∀ i,place i=some (i * τ.size,τ.size)) :
  ∀ {ps:List (Nat×AV)} {vs:List (Nat×Value)} {n:Nat} {xs:List τ.den} {l:List Value},sR τ n ps=some xs->aN (λ p q=>p.1=q.1/\VR c G lk w p.2 q.2) ps vs ->
   (n+ps.length) * τ.size=l.length->∃ r,Instr.fill place l.toArray vs=some (l.take (n * τ.size)++r).toArray/\dA w G.S (xs.map τ.aK) r
 | [],[],n,xs,l,h,_,hl=>by
  simp only[sR,a5E] at h
  subst h
  refine⟨[],?_,rfl⟩
  simp only[a6a,a7D] at hl
  rw[hl,a8g,a7a]
  rfl
 | (i,v)::ps,(j,x)::vs,n,xs,l,h,hv,hl=>by
  obtain⟨⟨yh,hx⟩,M5⟩:=hv
  have yh:i=j:=yh
  subst yh
  simp only[sR] at h
  split at h
  .rename_i iX
   have iX:=a5F iX
   subst iX
   split at h
   .rename_i y hy
    split at h
    .rename_i ys Hz
     simp only[a5E] at h
     subst h
     have hr:=(Gt hy hx).cells
     have cz:x.cells.size=τ.size:=by
      have:=Rd.length _ hr
      rw[show TV.aK ⟨τ,y⟩=τ.aK y from rfl,Ty.cK] at this
      simpa using this
     simp only[a5O] at hl
     have Hu:=τ.size_pos
     have e1:(i+(ps.length+1)) * τ.size=i * τ.size+τ.size+ps.length * τ.size:=by
      rw[a6G,a6G];omega
     rw[I4 place i _ _ x vs l (hp i) cz (by omega)]
     obtain⟨r,h1,h2⟩:=Eh hp (l:=l.take (i * τ.size)++x.cells.toList++l.drop (i * τ.size+τ.size)) Hz M5 (by
      simp[cz]
      rw[show (i+1+ps.length) * τ.size=i * τ.size+τ.size+ps.length * τ.size by rw[a6G,a6G];omega]
      omega)
     refine⟨x.cells.toList++r,?_,_,_,rfl,hr,h2⟩
     rw[h1]
     congr 2
     rw[show (i+1) * τ.size=i * τ.size+τ.size by rw[a6G];omega]
     have ht:(l.take (i * τ.size)++x.cells.toList).length=i * τ.size+τ.size:=by simp[cz];omega
     rw[<-ht,a7M,a6u]
    .cases h
   .cases h
  .cases h
 | [],_::_,_,_,_,_,hv,_=>hv.elim
 | _::_,[],_,_,_,_,hv,_=>hv.elim
theorem An{τ:Ty}:∀ {ps:List (Nat×AV)} {n:Nat} {xs:List τ.den},sR τ n ps=some xs->xs.length=ps.length
 | [],n,xs,h=>by
  simp only[sR,a5E] at h
  subst h;rfl
 | (i,v)::ps,n,xs,h=>by
  simp only[sR] at h
  split at h
  .split at h
   .split at h
    .rename_i ys Hz
     simp only[a5E] at h
     subst h
     simp[An Hz]
    .cases h
   .cases h
  .cases h
theorem AM(z:Array Value)(k:Nat):(madeCells z ((k+1) * z.size)).toList=(madeCells z (k * z.size)).toList++z.toList:=by
 apply a9c
 intro j
 have e:(k+1) * z.size=k * z.size+z.size:=by rw[a6G];omega
 by_cases h1:j<k * z.size
 .rw[a7o (by simp[madeCells];exact h1)]
  have h2:j<(k+1) * z.size:=by omega
  simp[madeCells,h1,h2]
 .by_cases h2:j<(k+1) * z.size
  .rw[a6V (by simp[madeCells];omega)]
   have h3:j - k * z.size<z.size:=by omega
   have hm:j % z.size=j - k * z.size:=by
    have h4:(j - k * z.size+z.size * k) % z.size=j - k * z.size:=by rw[Nat.add_mul_mod_self_left,Nat.mod_eq_of_lt h3]
    rwa [Nat.mul_comm z.size k,Nat.sub_add_cancel (Nat.le_of_not_lt h1)] at h4
   simp[madeCells,h2,hm,h3]
  .rw[a6V (by simp[madeCells];omega)]
   have h3:¬ j - k * z.size<z.size:=by omega
   simp[madeCells,h2]
   omega
theorem Ey{S:Nat->Prop}{d:D}{z:Array Value}(h:Rd w S d z.toList):∀ k:Nat,dA w S (List.replicate k d) (madeCells z (k * z.size)).toList
 | 0=>by simp[madeCells,dA,Array.range_zero']
 | k+1=>by
  rw[AM,a8t]
  exact dA.append _ _ (Ey h k) ⟨z.toList,[],by simp,h,rfl⟩
theorem AN(z:Array Value)(n m:Nat)(h:n<=m):(madeCells z m).toList.take n=(madeCells z n).toList:=by
 apply a9c
 intro j
 rw[a6Y]
 by_cases hj:j<n
 .have:j<m:=by omega
  simp[madeCells,hj,this]
 .simp[madeCells,hj]
end
end Go.Proofs.YtnehkikdlnmebaaGreatDoor

namespace Go.Proofs.YtnehkikdlnmebaaGreatDoor
def LV(d:Option Nat)(v:AV):av->Prop
 | .box _=>∃ i,d=some i/\v = .ptr i 0
 | .row .. => ∃ i,d=some i/\v = .row i
 | .aB .. => False
 | .map .. => ∃ i,d=some i/\v = .mp i
def UI(c:Ctx)(G:Gh)(lk:Nat->Option av)(w:World)(x:Value):av->Prop
 | .box cs=>∃ b l t,x = .pointer (some ⟨b,0,none⟩)/\w.heap[b]?=some (.cells l.toArray t (0,0))/\aN (C1 c G lk w) cs l
 | .row e τ xs=>∃ l,w.ownsRow 0 e τ.size x xs.length l/\dA w G.S (xs.map τ.aK) l/\xs.length<=140737488355328
 | .aB .. => False
 | .map m=>∃ b es clock,x = .map (some b)/\w.heap[b]?=some (.map es clock)/\Gj m es
def vT(c:Ctx)(G:Gh)(sl:Nat->AV)(n:Nat)(lk:Nat->Option av)(d:Option Nat)(a:Act)(w:World)(v:AV)(ob:Option av)(a':Act)(w':World):Prop :=
 ∃ x S',a'=a.put d x/\bn c ⟨S',G.η,G.φ⟩ sl n lk a w' /\
  match ob with
  | none=>VR c ⟨S',G.η,G.φ⟩ lk w' v x
  | some o=>LV d v o/\UI c ⟨S',G.η,G.φ⟩ lk w' x o/\∀ b,dS x=some b->w.heap.size<=b/\b<w'.heap.size/\¬ S' b
section
variable {c:Ctx} {G:Gh} {sl:Nat->AV} {n:Nat} {lk:Nat->Option av} {a:Act} {w w':World}
theorem bn.grow(h:bn c G sl n lk a w)(hk:bX (λ _=>False) w w'){S':Nat->Prop}(hS:∀ b,b<w.heap.size->(S' b↔G.S b))(hLt:∀ b,S' b->b<w'.heap.size):bn c ⟨S',G.η,G.φ⟩ sl n lk a w':=by
 refine h.world ⟨hk.os,hk.tape,hk.output,hk.size,λ b hb _=>hk.block b hb (λ h=>h)⟩ (λ b hb=>(hS b (h.dX b hb)).2 hb) hS (λ b hb=>?_) hLt (λ b hb=>?_) (λ id o b ho hb=>?_) (λ id τ xs b ht hb=>hk.block b (h.aT.pl id τ xs b ht hb).2.2.1 (λ h=>h))
 .have h1:=h.sX b hb
  exact (hS b (h.dX b h1)).2 h1
 .refine hk.block b ?_ (λ h=>h)
  rcases hb with hb|hb
  .exact h.dX b hb
  .exact a5Q hb.1 h.aM.size
 .exact hk.block b (h.place id o b ho hb).2.2 (λ h=>h)
theorem fZ(w:World)(o:Obj):bX (λ _=>False) w (w.alloc o):=⟨rfl,rfl,rfl,by simp,λ b hb _=>RowKit.Below.heap_alloc w o b hb⟩
theorem bn.alloc(h:bn c G sl n lk a w)(o:Obj):bn c G sl n lk a (w.alloc o) :=
 h.grow (S':=G.S) (fZ w o) (λ _ _=>a7N) (λ b hb=>by have:=h.dX b hb;simp;omega)
theorem bn.Q3(h:bn c G sl n lk a w)(hk:bX (λ _=>False) w w')(b:Nat)(hb:St c G.S b):w'.heap[b]?=w.heap[b]?:=by
 refine hk.block b ?_ (λ h=>h)
 rcases hb with hb|hb
 .exact h.dX b hb
 .exact a5Q hb.1 h.aM.size
theorem bn.a1K(h:bn c G sl n lk a w)(hk:bX (λ _=>False) w w'){v:AV}{x:Value}(hv:C1 c G lk w v x):C1 c G lk w' v x :=
 hv.mono (λ _ _=>⟨er.refl _,rfl⟩) (λ _ h=>h) (h.Q3 hk)
theorem cJ{o:Oper}{v:AV}{x:Value}{Q:Exit->Act->World->Prop}(hI:bn c G sl n lk a w)(hr:(execOp a.eval o).run c.P w = .ok (.value x) w)(hv:VR c G lk w v x) :
  o.wp c.P a w (vT c G sl n lk o.dst a w v none) Q:=by
 unfold Oper.wp
 rw[hr]
 exact⟨x,G.S,rfl,hI,hv⟩
theorem x7{o:Oper}{v:AV}{ob:av}{x:Value}{Q:Exit->Act->World->Prop}(Xc:bn c G sl n lk a w)(hr:(execOp a.eval o).run c.P w = .ok (.value x) w')(hI:bn c G sl n lk a w')
  (hL:LV o.dst v ob) (hN:UI c G lk w' x ob) (hb:∀ b,dS x=some b->w.heap.size<=b/\b<w'.heap.size) :
  o.wp c.P a w (vT c G sl n lk o.dst a w v (some ob)) Q:=by
 unfold Oper.wp
 rw[hr]
 exact⟨x,G.S,rfl,hI,hL,hN,λ b h=>⟨(hb b h).1,(hb b h).2,λ hs=>by have:=Xc.dX b hs;have:=(hb b h).1;omega⟩⟩
theorem Pl{e:TypeId}{τ:Ty}{xs:List τ.den}{x:Value}{l:List Value}{S S':Nat->Prop}(h1:w.ownsRow 0 e τ.size x xs.length l)(h2:dA w S (xs.map τ.aK) l)(h3:xs.length<=140737488355328)(hS:∀ b,S b->S' b)(hb:∀ b,dS x=some b->S' b) :
  Rd w S' (Ty.aK (.slice τ) xs) [x]:=by
 rcases h1.2 with ⟨hv,hn⟩|⟨g,cap,cur,hv,_,hh,K8,TW,mD,XO⟩
 .have hx:xs=[]:=a6I hn
  subst hx
  exact⟨none,0,by simp[hv],by simp,by simp[maxLen],by simp, .inl rfl⟩
 .refine⟨some ⟨g,0,none⟩,cap,by simp[hv],by simpa using K8,TW,by simpa using h3,?_⟩
  refine .inr ⟨g,0,rfl,hb g (by rw[hv];rfl),?_⟩
  refine dA.row _ g 0 (h2.aM hS (λ _ _=>rfl)) λ j v hj=>?_
  have:=h1.cells (g:=g) (by rw[hv];rfl) j v hj
  rw[a7j] at this
  exact this
theorem VD{o:Oper}{τ:Ty}{xs:List τ.den}{e:TypeId}{x:Value}{l:List Value}{Q:Exit->Act->World->Prop}(hI:bn c G sl n lk a w)(hr:(execOp a.eval o).run c.P w = .ok (.value x) w')(hk:bX (λ _=>False) w w')
  (h1:w'.ownsRow 0 e τ.size x xs.length l) (h2:dA w' G.S (xs.map τ.aK) l) (h3:xs.length<=140737488355328) (hb:∀ b,dS x=some b->w.heap.size<=b/\b<w'.heap.size) :
  o.wp c.P a w (vT c G sl n lk o.dst a w (.aS ⟨.slice τ,xs⟩) none) Q:=by
 unfold Oper.wp
 rw[hr]
 refine⟨x,λ b=>G.S b\/dS x=some b,rfl,hI.grow hk (λ b cw=>⟨λ q=>q.elim id λ q=>absurd (hb b q).1 (by omega), .inl⟩) λ b q=>q.elim (λ q=>a5Q (hI.dX b q) hk.size) λ q=>(hb b q).2,?_⟩
 exact Pl h1 h2 h3 (λ _ q => .inl q) (λ _ q => .inr q)
theorem Kt{v:TV}(h:v.flat=true){S S':Nat->Prop}{w w':World}{cs:List Value}(hr:Rd w S v.aK cs):Rd w' S' v.aK cs:=by
 have one:∀ u:TV,u.τ.agg=false->(match u.τ with | .slice _=>false | .mv _=>false|_=>true)=true->∀ cs,Rd w S u.aK cs->Rd w' S' u.aK cs:=by
  intro u h1 h2 cs h3
  obtain⟨τ,y⟩:=u
  cases τ<;>first|exact h3|(cases h1;done)|(simp at h2;done)
 obtain⟨τ,y⟩:=v
 cases τ with
 | st s =>
  rw[show TV.aK ⟨.st s,y⟩=s.aK y from rfl,aR.cr] at hr ⊢
  refine dq.vU.2 ((dq.vU.1 hr).imp λ u x hu hx=>?_)
  refine one u ?_ (a6i.1 h u hu) _ hx
  have:=aR.qk s y u hu
  obtain⟨aZ,z⟩:=u
  cases aZ with
  | st s'=>simp[TV.aK,Ty.aK,aR.cr,D.leaf] at this
  | _=>rfl
 | slice t=>simp[TV.flat,TV.cells] at h
 | mv t=>simp[TV.flat,TV.cells] at h
 | ptr=>exact hr
 | int k=>exact hr
 | bool=>exact hr
 | str=>exact hr
theorem MI{v:TV}(h:v.flat=true){S S':Nat->Prop}{w w':World}{x:Value}(hr:eI w S v x):eI w' S' v x:=by
 obtain⟨τ,y⟩:=v
 cases τ with
 | st s =>
  obtain⟨cs,h1,h2⟩:=hr
  exact⟨cs,h1,Kt (v:=⟨.st s,y⟩) h h2⟩
 | _=>exact Kt (v:=⟨_,y⟩) (w:=w) (w':=w') (S:=S) (S':=S') h hr
theorem zM{lk':Nat->Option av}(cu:∀ id o,lk' id=some o->lk id=some o):∀ id o,sH lk' id=some o->lk id=some o:=by
 intro id o h
 unfold sH at h
 split at h
 .rename_i cs hc
  simp only[a5E] at h
  subst h
  exact cu _ _ hc
 .cases h
theorem zN{lk':Nat->Option av}:∀ id e τ xs,sH lk' id≠some (.row e τ xs):=by
 intro id e τ xs h
 unfold sH at h
 split at h<;>simp at h
theorem w9{lk':Nat->Option av}:∀ id τ xs,sH lk' id≠some (.aB τ xs):=by
 intro id τ xs h
 unfold sH at h
 split at h<;>simp at h
theorem Uk{τ:Ty}{cs:List Value}{x:τ.den}{S:Nat->Prop}(h:eI w S ⟨τ,x⟩ (DW τ cs))(hl:cs.length=τ.size):Rd w S (τ.aK x) cs:=by
 cases τ with
 | st s =>
  obtain⟨dJ,h1,h2⟩:=h
  simp only[DW,Value.agg.injEq] at h1
  have:cs=dJ:=by have:=congrArg Array.toList h1;simpa using this
  subst this
  exact h2
 | _ =>
  match cs,hl with
  | [v],_=>exact h
theorem CR.hJ{v:AV}{x:Value}(h:CR c G lk w v x):VR c G lk w v x:=by
 cases v with
 | aS v=>exact h
 | agg cs=>exact h
 | any=>trivial
 | eC=>exact h
 | j8 _=>exact h.elim
 | di _ _=>exact h.elim
 | nil=>exact h
 | fX v=>exact h
 | ptr i o=>exact h
 | row i=>exact h
 | ei i k o=>exact h
 | fn f=>exact h
 | aB i=>exact h
 | sub i k o z=>exact h
 | eH i k o z=>exact h
 | jE v=>exact h
 | mp i=>exact h
theorem C1.S8{v:AV}{x:Value}(h:C1 c G lk w v x):CR c G lk w v x:=by
 cases v with
 | aS v=>exact C1.hJ (v := .aS v) h
 | agg cs=>exact h.elim
 | j8 cs=>exact h.elim
 | di f cs=>exact h.elim
 | _=>exact h
theorem CR.inv{v:AV}{x:Value}(h:CR c G lk w v x):(∃ u,v = .aS u/\eI w G.S u x)\/(∃ cs l,v = .agg cs/\x = .agg l.toArray/\aN (C1 c G lk w) cs l)\/C1 c G lk w v x:=by
 cases v with
 | aS v=>exact .inl ⟨v,rfl,h⟩
 | agg cs =>
  obtain⟨l,h1,h2⟩:=h
  exact .inr (.inl ⟨cs,l,rfl,h1,h2⟩)
 | _=>exact .inr (.inr h)
theorem VR.S8{v:AV}{x:Value}(h:VR c G lk w v x)(hc:v.WW=true):CR c G lk w v x:=by
 cases v with
 | j8 _=>cases hc
 | di _ _=>cases hc
 | eC=>cases hc
 | jE _=>cases hc
 | _=>exact h
theorem BD{S:Nat->Prop}{lk':Nat->Option av}(hI:bn c G sl n lk a w)(cu:∀ id o,lk' id=some o->lk id=some o)
  (oL:∀ (τ:Ty) v x (y:τ.den),AU lk' τ v=some y->VR c G lk w v x->eI w S ⟨τ,y⟩ x) {τ:Ty} {v:AV} {x:Value} {y:τ.den} (hy:deref lk' τ v=some y) (hx:VR c G lk w v x):EL w S (.ref ⟨τ,y⟩) x:=by
 unfold deref at hy
 split at hy
 .rename_i u hu
  obtain⟨b,o,cs,h1,h2,h3,h4⟩:=rk hI.aH cu hu hx
  have h5:=Uk (oL _ _ _ _ hy h4) h3
  have Hu:=τ.size_pos
  have hc0:=h2 0 (cs[0]'(by omega)) (a5V (by omega))
  exact⟨b,o,cs,h1,World.block_lt_of_cell? w _ hc0,h2,h5⟩
 .cases hy
theorem zn{S:Nat->Prop}{lk':Nat->Option av}(hI:bn c G sl n lk a w)(cu:∀ id o,lk' id=some o->lk id=some o)
  (oL:∀ (τ:Ty) v x (y:τ.den),AU lk' τ v=some y->VR c G lk w v x->eI w S ⟨τ,y⟩ x) :
  ∀ {ks:List (Bool×Ty)} {vs:List AV} {Z9:List Arg} {xs:List Value},zm lk' ks vs=some Z9->aN (CR c G lk w) vs xs->aN (EL w S) Z9 xs
 | [],[],Z9,xs,h,hv=>by
  simp only[zm,a5E] at h
  subst h
  match xs,hv with
  | [],_=>trivial
 | (true,τ)::ks,v::vs,Z9,xs,h,hv=>by
  simp only[zm] at h
  split at h
  .rename_i y hy
   split at h
   .rename_i r hr
    simp only[a5E] at h
    subst h
    match xs,hv with
    | x::xs,hv=>exact⟨BD hI cu oL hy hv.1.hJ,zn hI cu oL hr hv.2⟩
   .cases h
  .cases h
 | (false,τ)::ks,v::vs,Z9,xs,h,hv=>by
  simp only[zm] at h
  split at h
  .rename_i y hy
   split at h
   .rename_i r hr
    simp only[a5E] at h
    subst h
    match xs,hv with
    | x::xs,hv=>exact⟨oL _ _ _ _ hy hv.1.hJ,zn hI cu oL hr hv.2⟩
   .cases h
  .cases h
 | [],_::_,_,_,h,_=>by cases h
 | (true,_)::_,[],_,_,h,_=>by cases h
 | (false,_)::_,[],_,_,h,_=>by cases h
theorem E9(hE:bJ c.P c.E){f:FuncId}{gK:List Arg}:∀ (ps:List Ty) (r:Ty) (acc:List Arg),CX c.P f gK ps r (Mn c.E f gK ps r acc) acc
 | [],r,acc=>by
  show (Mn c.E f gK [] r acc).1->_
  intro hp
  generalize hF:Mn c.E f gK [] r acc=F at hp ⊢
  rw[Mn] at hF
  split at hF
  .rename_i pre v hc
   split at hF
   .rename_i y hy
    subst hF
    have:=TV.bd hy
    subst this
    obtain⟨h1,h2⟩:=hE.IV f _ _ _ hc hp
    exact⟨h1,h2.ok0⟩
   .subst hF
    exact hp.elim
  .subst hF
   exact hp.elim
 | t::ts,r,acc=>λ x=>E9 hE ts r (acc++[.val ⟨t,x⟩])
theorem Kh{P:Program}{f:FuncId}{gK:List Arg}:∀ {ps:List Ty} {r:Ty} {F:FN ps r} {acc Z9:List Arg} {p:Prop} {y:r.den},CX P f gK ps r F acc->tG ps r F Z9=some (p,y)->p ->
  (oC P f/\Gk P f (acc++Z9++gK) (·=[⟨r,y⟩]))/\∀ z∈Z9,∃ v,z = .val v
 | [],r,F,acc,[],p,y,h,e,hp=>by
  simp only[tG,a5E] at e
  have h':F.1->oC P f/\Gk P f (acc++gK) (·=[⟨r,F.2⟩]):=h
  rw[e] at h'
  refine⟨by simpa using h' hp,by simp⟩
 | t::ts,r,F,acc, .val z::zs,p,y,h,e,hp=>by
  simp only[tG] at e
  split at e
  .rename_i x hx
   have h':∀ x,CX P f gK ts r (F x) (acc++[.val ⟨t,x⟩]):=h
   obtain⟨h1,h2⟩:=Kh (h' x) e hp
   have:=TV.bd hx
   subst this
   refine⟨by simpa using h1,λ z hz=>?_⟩
   rcases a5P.1 hz with rfl|hz
   .exact⟨_,rfl⟩
   .exact h2 z hz
  .cases e
 | [],_,_,_,_::_,_,_,_,e,_=>by simp[tG] at e
 | _::_,_,_,_,[],_,_,_,e,_=>by simp[tG] at e
 | _::_,_,_,_, .ref _::_,_,_,_,e,_=>by simp[tG] at e
 | _::_,_,_,_, .fn _::_,_,_,_,e,_=>by simp[tG] at e
 | _::_,_,_,_, .di _::_,_,_,_,e,_=>by simp[tG] at e
theorem zq(hE:bJ c.P c.E){S:Nat->Prop}{lk':Nat->Option av}(hI:bn c G sl n lk a w)(cu:∀ id o,lk' id=some o->lk id=some o)(Xh:∀ b,G.S b->S b)
  (oL:∀ (τ:Ty) v x (y:τ.den),AU lk' τ v=some y->VR c G lk w v x->eI w S ⟨τ,y⟩ x) {g:AV} {x:Value} {q:FV} (h:GP c.E lk' g=some q) (hx:VR c G lk w g x):uJ c.P w S (.di q) x:=by
 unfold GP at h
 split at h
 .rename_i f cs
  split at h
  .rename_i k _
   split at h
   .rename_i Z9 has
    simp only[a5E] at h
    subst h
    obtain⟨l,h1,h2⟩:=hx
    exact⟨f,Z9,l,h1,E9 hE _ _ _,zn hI cu oL has h2⟩
   .cases h
  .cases h
 .simp only[a5E] at h
  subst h
  obtain⟨f,gK,l,h1,h2,h3⟩:=hx
  refine⟨f,gK,l,h1,h2,h3.imp λ u y _ hy=>?_⟩
  cases u with
  | val v=>exact eI.mono (G:=G) (G':=⟨S,G.η,G.φ⟩) hy Xh (λ _ _=>rfl)
  | ref v =>
   obtain⟨b,o,cs,k1,k2,k3,k4⟩:=hy
   refine⟨b,o,cs,k1,?_,k3,Rd.aM Xh (λ _ _=>rfl) _ k4⟩
   exact k2.elim (hI.dX b) λ k=>a5Q k.1 hI.aM.size
  | fn f=>exact hy
  | di v=>exact hy.elim
  | own v=>exact hy.elim
  | box k=>exact hy.elim
 .rename_i f
  split at h
  .rename_i k _
   split at h
   .simp only[a5E] at h
    subst h
    exact⟨f,[],[],hx,E9 hE _ _ _,trivial⟩
   .cases h
  .cases h
 .cases h
theorem jw(hE:bJ c.P c.E){S:Nat->Prop}{lk':Nat->Option av}(hI:bn c G sl n lk a w)(cu:∀ id o,lk' id=some o->lk id=some o)(Xh:∀ b,G.S b->S b)
  (oL:∀ (τ:Ty) v x (y:τ.den),AU lk' τ v=some y->VR c G lk w v x->eI w S ⟨τ,y⟩ x) :
  ∀ {Ts:List TypeId} {vs:List AV} {Z9:List Arg} {xs:List Value},nQ c.E lk' Ts vs=some Z9->aN (VR c G lk w) vs xs->aN (uJ c.P w S) Z9 xs
 | [],[],Z9,xs,h,hv=>by
  simp only[nQ,a5E] at h
  subst h
  match xs,hv with
  | [],_=>trivial
 | T::Ts,v::vs,Z9,xs,h,hv=>by
  simp only[nQ] at h
  split at h
  .rename_i p hp
   split at h
   .rename_i r hr
    simp only[a5E] at h
    subst h
    match xs,hv with
    | x::xs,hv =>
     refine⟨?_,jw hE hI cu Xh oL hr hv.2⟩
     have hx:=hv.1
     unfold L9 at hp
     split at hp
     .split at hp
      .rename_i y hy
       simp only[a5E] at hp
       subst hp
       exact oL _ _ _ _ hy hx
      .cases hp
     .split at hp
      .rename_i τ _
       split at hp
       .rename_i y hy
        simp only[a5E] at hp
        subst hp
        exact BD hI cu oL hy hx
       .cases hp
      .split at hp
       .rename_i q hq
        simp only[a5E] at hp
        subst hp
        exact zq hE hI cu Xh oL hq hx
       .split at hp
        .simp only[a5E] at hp
         subst hp
         exact hx
        .cases hp
   .cases h
  .cases h
 | [],_::_,_,_,h,_=>by cases h
 | _::_,[],_,_,h,_=>by cases h
theorem xc{S:Nat->Prop}{res:List TV}{x:Value}(h:D5 w S res x){η:Nat->Value}{φ:Nat->List Nat}:VR c ⟨S,η,φ⟩ lk w (zS res) x:=by
 match res,h with
 | [v],h=>exact h
 | [],h =>
  obtain⟨l,h1,h2⟩:=h
  exact⟨l,h1,aN.eB _ h2⟩
 | v::u::r,h =>
  obtain⟨l,h1,h2⟩:=h
  exact⟨l,h1,aN.eB _ h2⟩
theorem O3{S S':Nat->Prop}{res:List TV}{x:Value}(hf:res.all TV.flat=true)(h:D5 w S res x):D5 w S' res x:=by
 have nk:∀ v∈res,v.flat=true:=a6i.1 hf
 match res,h,nk with
 | [v],h,nk=>exact MI (nk v (by simp)) h
 | [],h,nk =>
  obtain⟨l,h1,h2⟩:=h
  exact⟨l,h1,h2.imp λ v y hv hy=>MI (nk v hv) hy⟩
 | v::u::r,h,nk =>
  obtain⟨l,h1,h2⟩:=h
  exact⟨l,h1,h2.imp λ v y hv hy=>MI (nk v hv) hy⟩
theorem Kp(hE:bJ c.P c.E)(hI:bn c G sl n lk a w){lk':Nat->Option av}(cu:∀ id o,lk' id=some o->lk id=some o){o:Oper}{f:FuncId}{Ts:List TypeId}{vs:List AV}{xs:List Value}
  {vc:Vc} {v:AV} {ob:Option av} (hq:CZ c.E lk' f Ts vs=some (vc,v,ob)) (eJ:vc.ok) (np:aN (VR c G lk w) vs xs)
  (cS:oC c.P f->(execOp a.eval o).run c.P w = .ok (.enter f xs.toArray) w) {Q:Exit->Act->World->Prop}:o.wp c.P a w (vT c G sl n lk o.dst a w v ob) Q:=by
 have fin:∀ (S:Nat->Prop) (Z9:List Arg) (pre:Vc) (res:List TV),c.E.IV f Z9=some (pre,res)->pre.ok->aN (uJ c.P w S) Z9 xs->oE w S ->
   (∀ S' w' x,bX (λ _=>False) w w'->(∀ b,b<w.heap.size->(S' b↔S b))->(∀ b,S' b->b<w'.heap.size)->D5 w' S' res x->vT c G sl n lk o.dst a w (zS res) none (a.put o.dst x) w') ->
   o.wp c.P a w (vT c G sl n lk o.dst a w (zS res) none) Q:=by
  intro S Z9 pre res hc M4 has bF Fy
  obtain⟨tK,pM⟩:=hE.IV f Z9 pre res hc M4
  unfold Oper.wp
  rw[cS tK]
  simp only[Oper.upon]
  refine (pM w S xs bF has).mono ?_
  rintro e w' ⟨x,S',a4F,rfl,rfl,h1,h2,h3,h4⟩
  exact Fy S' w' x h1 h2 h3 h4
 unfold CZ at hq
 split at hq
 .rename_i Z9 has
  split at hq
  .rename_i pre res hc
   simp only[a5E,a5H] at hq
   obtain⟨rfl,rfl,rfl⟩:=hq
   refine fin G.S Z9 _ _ hc eJ (jw hE hI (zM cu) (λ _ h=>h) (λ τ v x y h1 h2=>xH zN w9 h1 h2) has np) hI.Wk ?_
   intro S' w' x h1 h2 h3 h4
   exact⟨x,S',rfl,hI.grow h1 h2 h3,xc h4⟩
  .cases hq
 .split at hq
  .rename_i Z9 has
   split at hq
   .rename_i pre res hc
    split at hq
    .rename_i Zy
     simp only[a5E,a5H] at hq
     obtain⟨rfl,rfl,rfl⟩:=hq
     refine fin (SX G lk) Z9 _ _ hc eJ (jw hE hI cu (λ _ h => .inl h) (λ τ v x y h1 h2=>y6 hI.aT hI.aH cu h1 h2) has np) ?_ ?_
     .exact hI.Vq
     .intro S' w' x h1 h2 h3 h4
      exact⟨x,G.S,rfl,hI.grow (S':=G.S) h1 (λ _ _=>a7N) (λ b hb=>a5Q (hI.dX b hb) h1.size),xc (O3 Zy h4)⟩
    .cases hq
   .cases hq
  .cases hq
theorem OD{o:Oper}{cl:Call}{fo:Operand}{f:FuncId}{l:List Value}(ho:o.op = .call cl)(hc:cl.callee = .value fo)(hf:a.eval fo = .func (.func f) #[] l.toArray)(tK:oC c.P f) :
  (execOp a.eval o).run c.P w = .ok (.enter f (cl.args.toList.map a.eval++l).toArray) w:=by
 obtain⟨fn,h1,h2,h3⟩:=tK
 have h3':(fn.name = "runtime.NumGoroutine")=False:=by simpa using h3
 have I8:fn.body≠none:=by intro e;simp[e] at h2
 simp[execOp,ho,resolve,hc,Deferred.ofValue,hf,invoke,callFunc,h1,I8,h3']
theorem BB(hE:bJ c.P c.E)(hI:bn c G sl n lk a w){lk':Nat->Option av}(cu:∀ id o,lk' id=some o->lk id=some o){o:Oper}{cl:Call}{fo:Operand}{g:AV}{Ts:List TypeId}{vs:List AV}
  {vc:Vc} {v:AV} {ob:Option av} (hq:xW c.E lk' g Ts vs=some (vc,v,ob)) (eJ:vc.ok) (np:aN (VR c G lk w) vs (cl.args.toList.map a.eval)) (bw:o.op = .call cl) (kQ:cl.callee = .value fo) (hg:VR c G lk w g (a.eval fo))
  {Q:Exit->Act->World->Prop}:o.wp c.P a w (vT c G sl n lk o.dst a w v ob) Q:=by
 have fin:∀ (S:Nat->Prop) (Z9:List Arg) (q:FV) (pre:Prop) (y:q.r.den),tG q.ps q.r q.F Z9=some (pre,y)->pre->aN (uJ c.P w S) Z9 (cl.args.toList.map a.eval)->uJ c.P w S (.di q) (a.eval fo)->oE w S ->
   (∀ S' w' x,bX (λ _=>False) w w'->(∀ b,b<w.heap.size->(S' b↔S b))->(∀ b,S' b->b<w'.heap.size)->D5 w' S' [⟨q.r,y⟩] x->vT c G sl n lk o.dst a w (zS [⟨q.r,y⟩]) none (a.put o.dst x) w') ->
   o.wp c.P a w (vT c G sl n lk o.dst a w (zS [⟨q.r,y⟩]) none) Q:=by
  intro S Z9 q pre y Qb M4 has a4d bF Fy
  obtain⟨f,gK,l,h1,h2,h3⟩:=a4d
  obtain⟨⟨tK,pM⟩,Sh⟩:=Kh h2 Qb M4
  unfold Oper.wp
  rw[OD bw kQ h1 tK]
  simp only[Oper.upon]
  simp only[a6C] at pM
  have a3T:aN (EL w S) Z9 (cl.args.toList.map a.eval):=has.imp λ u z hu hz=>by
   obtain⟨v,rfl⟩:=Sh u hu
   exact hz
  refine (pM w S _ bF (a3T.append h3)).mono ?_
  rintro e w' ⟨x,S',a4F,rfl,rfl,h1,h2,h3,h4⟩
  exact Fy S' w' x h1 h2 h3 h4
 unfold xW at hq
 split at hq
 .rename_i r0 Sg
  split at Sg
  .rename_i Z9 has
   split at Sg
   .rename_i q hqq
    split at Sg
    .rename_i pre y Qb
     simp only[a5E] at Sg hq
     subst Sg
     simp only[a5H] at hq
     obtain⟨rfl,rfl,rfl⟩:=hq
     refine fin G.S Z9 q pre y Qb eJ (jw hE hI (zM cu) (λ _ h=>h) (λ τ v x y h1 h2=>xH zN w9 h1 h2) has np) (zq hE hI (zM cu) (λ _ h=>h) (λ τ v x y h1 h2=>xH zN w9 h1 h2) hqq hg) hI.Wk ?_
     intro S' w' x h1 h2 h3 h4
     exact⟨x,S',rfl,hI.grow h1 h2 h3,xc h4⟩
    .cases Sg
   .cases Sg
  .cases Sg
 .split at hq
  .rename_i Z9 has
   split at hq
   .rename_i q hqq
    split at hq
    .rename_i pre y Qb
     split at hq
     .rename_i Zy
      simp only[a5E,a5H] at hq
      obtain⟨rfl,rfl,rfl⟩:=hq
      refine fin (SX G lk) Z9 q pre y Qb eJ (jw hE hI cu (λ _ h => .inl h) (λ τ v x y h1 h2=>y6 hI.aT hI.aH cu h1 h2) has np) (zq hE hI cu (λ _ h => .inl h) (λ τ v x y h1 h2=>y6 hI.aT hI.aH cu h1 h2) hqq hg) ?_ ?_
      .exact hI.Vq
      .intro S' w' x h1 h2 h3 h4
       exact⟨x,G.S,rfl,hI.grow (S':=G.S) h1 (λ _ _=>Iff.rfl) (λ b hb=>Nat.lt_of_lt_of_le (hI.dX b hb) h1.size),xc (O3 (res:=[⟨q.r,y⟩]) (by simpa using Zy) h4)⟩
     .cases hq
    .cases hq
   .cases hq
  .cases hq
theorem lB{o:Oper}{cl:Call}{fo:Operand}{f:FuncId}(ho:o.op = .call cl)(hc:cl.callee = .value fo)(hf:a.eval fo = .func (.func f) #[] #[])(tK:oC c.P f) :
  (execOp a.eval o).run c.P w = .ok (.enter f (cl.args.toList.map a.eval).toArray) w:=by
 obtain⟨fn,h1,h2,h3⟩:=tK
 have h3':(fn.name = "runtime.NumGoroutine")=False:=by simpa using h3
 have I8:fn.body≠none:=by intro e;simp[e] at h2
 simp[execOp,ho,resolve,hc,Deferred.ofValue,hf,invoke,callFunc,h1,I8,h3']
 apply a9z
 simp
theorem aN.pG{ev:Operand->AV}(cY:∀ x,VR c G lk w (ev x) (a.eval x)):∀ l:List Operand,aN (VR c G lk w) (l.map ev) (l.map a.eval)
 | []=>trivial
 | x::r=>⟨cY x,aN.pG cY r⟩
theorem aN.Dc{ev:Operand->AV}(cY:∀ x,VR c G lk w (ev x) (a.eval x)):∀ l:List (Nat×Operand),
  aN (λ p q=>p.1=q.1/\VR c G lk w p.2 q.2) (l.map λ p=>(p.1,ev p.2)) (l.map λ p=>(p.1,a.eval p.2))
 | []=>trivial
 | x::r=>⟨⟨rfl,cY x.2⟩,aN.Dc cY r⟩
theorem nN{S:Nat->Prop}{t:Ty}{xs:List t.den}{x:Value}(h:eI w S ⟨.slice t,xs⟩ x):∃ ad cap,x = .slice ad xs.length cap/\xs.length<=cap/\xs.length<=140737488355328 /\
  (xs=[]\/∃ b o,ad=some ⟨b,o,none⟩/\S b/\dr w S (xs.map t.aK) b o):=by
 obtain⟨ad,cap,h1,h2,h3,h4,h5⟩:=h
 simp only[a5L,a5R,a6B] at h1
 exact⟨ad,cap,h1,by simpa using h2,by simpa using h4,h5.imp (λ h=>by simpa using h) id⟩
theorem Wo{S:Nat->Prop}{t:Ty}{ys:List t.den}{ad:Option Addr}{m cap:Nat}(h1:ys.length=m)(h2:m<=cap)(h3:cap<=maxLen)(h4:m<=140737488355328)
  (h5:ys=[]\/∃ b o,ad=some ⟨b,o,none⟩/\S b/\dr w S (ys.map t.aK) b o):eI w S ⟨.slice t,ys⟩ (.slice ad m cap):=by
 subst h1
 exact⟨ad,cap,by simp,by simpa using h2,h3,by simpa using h4,h5.imp (λ h=>by simp[h]) id⟩
theorem ru(hE:bJ c.P c.E){T:TypeId}{t:Ty}{b e:Nat}(h:ae c.E.ty T=some (.slice t,b,e)){bk o len cap:Nat}{k:IntKind}{i:Int}(h0:0<=i)(h1:i<len)(w:World) :
  (Instr.indexAt T (.slice (some ⟨bk,o,none⟩) len cap) (.int k i)).run c.P w = .ok (.pointer (some ⟨bk,o+i.toNat * t.size,none⟩)) w:=by
 obtain⟨h2,⟨b',e',h3⟩,_⟩:=hE.slice h
 simp[Instr.indexAt,a6x h2,asIntOf,h0,h1,hE.sizeOf h3 w,a7j]
theorem Ei(s:aR)(y:s.den)(i:Nat){f:TV}(hf:(s.fields y)[i]?=some f):((s.cells y).drop (s.fH i)).take f.τ.size=f.cells/\s.fH i+f.τ.size<=s.size:=by
 have BV:∀ v:TV,v.cells.length=v.τ.size:=by
  rintro⟨τ,x⟩
  cases τ<;>first|rfl|exact aR.jT _ _
 have key:∀ (l:List TV) (i:Nat) (f:TV),l[i]?=some f->((l.flatMap TV.cells).drop ((l.map TV.τ).take i |>.map Ty.size).sum).take f.τ.size=f.cells/\(((l.map TV.τ).take i).map Ty.size).sum+f.τ.size<=(l.flatMap TV.cells).length:=by
  intro l
  induction l with
  | nil=>intro i f h;simp at h
  | cons g l ih =>
   intro i f h
   cases i with
   | zero =>
    simp at h
    subst h
    have:=BV g
    simp only[a8d,a7C,List.sum_nil,a8c,a9e,a5U,a6X]
    exact⟨by rw[<-this,a7M],by omega⟩
   | succ i =>
    obtain⟨h1,h2⟩:=ih i f (by simpa using h)
    simp only[a6n,a8S,a9F,a9e,a5U,<-BV g]
    refine⟨?_,by omega⟩
    rw[<-a8b,a7L]
    exact h1
 have:=key _ i f hf
 rw[<-aR.Ee,aR.wo,aR.jT] at this
 exact this
theorem BH{S:Nat->Prop}{s:aR}{y:s.den}{i:Nat}{f:TV}(hf:(s.fields y)[i]?=some f){cs:List Value}(h:Rd w S (TV.aK ⟨.st s,y⟩) cs):Rd w S f.aK ((cs.drop (s.fH i)).take f.τ.size):=by
 obtain⟨h1,_⟩:=Ei s y i hf
 rw[show TV.aK ⟨.st s,y⟩=s.aK y from rfl,aR.cr] at h
 have h2:=((dq.vU.1 h).drop (s.fH i)).take f.τ.size
 rw[h1] at h2
 obtain⟨τ,x⟩:=f
 cases τ with
 | st s' =>
  show Rd w S (s'.aK x) _
  rw[aR.cr]
  exact dq.vU.2 h2
 | _ =>
  simp only[TV.cells] at h2
  match hc:(cs.drop (s.fH i)).take (Ty.size _),h2 with
  | [v],h2=>exact h2.1
theorem RO{S:Nat->Prop}{s:aR}{y:s.den}{i:Nat}{f:TV}(hf:(s.fields y)[i]?=some f){cs:List Value}(h:Rd w S (s.aK y) cs):s.fH i+f.τ.size<=cs.length/\True:=by
 obtain⟨_,h1⟩:=Ei s y i hf
 have:=Rd.length _ h
 rw[aR.cr] at this
 simp only[D.size,a6B,aR.jT] at this
 exact⟨by omega,trivial⟩
theorem Ty.size_le(τ:Ty):τ.size<=100:=by
 have:∀ s:aR,s.size<=100:=by intro s;cases s<;>decide
 cases τ<;>first|exact this _|(simp[Ty.size];done)
theorem Rd.mz{S:Nat->Prop}{τ:Ty}{x:τ.den}{cs:List Value}(h:Rd w S (τ.aK x) cs):∀ u∈cs,u.oneCell'=true:=by
 cases τ with
 | st s =>
  rw[show Ty.aK (.st s) x=s.aK x from rfl,aR.cr] at h
  have ha:=dq.vU.1 h
  intro u hu
  obtain⟨i,hi,Xw⟩:=a7p hu
  have hlen:=ha.length
  obtain⟨b,hb,hr⟩:=ha.at_ i (s.cells x)[i] (a5V (by omega))
  have hbu:b=u:=by
   have:cs[i]?=some u:=by rw[a5V hi,Xw]
   rw[this] at hb;exact (a6Z hb).symm
  subst hbu
  obtain⟨z,h1,h2⟩:=Rd.tP (aR.qk s x _ (a8r _)) hr
  simp only[a5L,a5R] at h1
  subst h1
  exact wR h2
 | _ =>
  obtain⟨z,rfl,h2⟩:=Rd.tP (lv (v:=⟨_,x⟩) rfl) h
  intro u hu
  simp only[a6t] at hu
  subst hu
  exact wR h2
theorem dA.mz{S:Nat->Prop}{τ:Ty}:∀ {xs:List τ.den} {l:List Value},dA w S (xs.map τ.aK) l->∀ u∈l,u.oneCell'=true
 | [],l,h=>by rw[show l=[] from h];simp
 | x::xs,l,h=>by
  obtain⟨c1,r,rfl,h2,h3⟩:=h
  intro u hu
  rcases a5G.1 hu with hu|hu
  .exact Rd.mz h2 u hu
  .exact dA.mz h3 u hu
def Src(w:World)(S:Nat->Prop)(τ:Ty)(ys:List τ.den)(z:Value):Prop :=
 ∃ ad cap,z = .slice ad ys.length cap/\(ys=[]\/∃ b o news,ad=some ⟨b,o,none⟩/\bP w b o news/\dA w S (ys.map τ.aK) news)
theorem Cs{lk lk':Nat->Option av}(cu:∀ id o,lk' id=some o->lk id=some o)(id:Nat)(o:av)(h:HH lk' id=some o):lk id=some o:=by
 unfold HH at h
 split at h
 .cases h
 .exact cu id o h
theorem SA{lk:Nat->Option av}(id:Nat)(τ:Ty)(xs:List τ.den):HH lk id≠some (.aB τ xs):=by
 unfold HH
 split
 .simp
 .rename_i l6;exact l6 _ _
theorem UJ(mT:∀ id o,lk id=some o->OR c G lk w id o){lk':Nat->Option av}(cu:∀ id o,lk' id=some o->lk id=some o)(K9:∀ id τ xs,lk' id≠some (.aB τ xs)){τ:Ty}{v:AV}{z:Value}{ys:List τ.den}(h:lF lk' (.slice τ) v=some ys)
  (hv:C1 c G lk w v z):Src w G.S τ ys z:=by
 cases v with
 | aS u =>
  have e:=TV.bd h
  subst e
  obtain⟨ad,cap,h1,h2,h3,h4⟩:=nN (show eI w G.S ⟨.slice τ,ys⟩ z from hv.2)
  refine⟨ad,cap,h1,h4.imp id ?_⟩
  rintro⟨b,o,h5,h6,h7⟩
  obtain⟨news,h8,h9⟩:=dr.cells _ b o h7
  exact⟨b,o,news,h5,h9,h8⟩
 | nil =>
  simp only[lF,a5E] at h
  subst h
  exact⟨none,0,hv, .inl rfl⟩
 | row id =>
  simp only[lF] at h
  split at h
  .rename_i e aZ xs hl
   have e1:=TV.bd h
   cases e1
   have sT:=cu _ _ hl
   obtain⟨l,h1,h2,h3⟩:=mT _ _ sT
   rcases h1.2 with ⟨Qr,hn⟩|⟨g,cap,cur,Qr,_⟩
   .exact⟨none,0,by rw[hv.1,Qr,hn], .inl (a6I hn)⟩
   .refine⟨some ⟨g,0,none⟩,cap,by rw[hv.1,Qr], .inr ⟨g,0,l,rfl,?_,h2⟩⟩
    intro j u hj
    have:=h1.cells (g:=g) (by rw[Qr];rfl) j u hj
    rw[a7j] at this
    exact this
  .cases h
 | aB id =>
  simp only[lF] at h
  split at h
  .rename_i hl
   exact absurd hl (K9 _ _ _)
  .cases h
 | _=>cases h
theorem Ki{S:Nat->Prop}{base:Nat}(hE:bJ c.P c.E){T:TypeId}{τ:Ty}{b e n:Nat}{v z:Value}{l:List Value}{ys:List τ.den}(hT:ae c.E.ty T=some (.slice τ,b,e))(eM:w.ownsRow base e τ.size v n l)
  (Qe:base<=w.heap.size) (oL:Src w S τ ys z) (zD:cE (n+ys.length) b) (ty:TypeId) :
  ∃ v' w' news,(Builtin.append_ #[T,T] ty #[v,z]).run c.P w = .ok v' w'/\w'.ownsRow base e τ.size v' (n+ys.length) (l++news)/\w.grownBy w' v.ownBlock/\(v'.ownBlock=v.ownBlock\/v'.ownBlock=some w.heap.size) /\
   dA w S (ys.map τ.aK) news/\n+ys.length<=140737488355328:=by
 obtain⟨k1,⟨b',e',k2⟩,i,zv,k3,k4,k5,k6,k7⟩:=hE.slice hT
 have Qs:zv.cells.size=τ.size:=by
  have:=Rd.length _ (IH (w:=w) (S:=S) k7)
  rwa [Ty.cK,a6y] at this
 have Hu:=τ.size_pos
 have Oy:(n+ys.length) * b<=140737488355328/\n+ys.length<=140737488355328:=by
  unfold cE at zD
  rw[Nat.mul_add,a9t] at zD
  omega
 have Ht:n+ys.length<=maxLen:=by simp only[maxLen];omega
 obtain⟨ad,cap,h1,h4⟩:=oL
 subst h1
 by_cases hy:ys=[]
 .subst hy
  simp only[a6a,a7D] at *
  cases ad with
  | none =>
   refine⟨v,w,[],?_,by simpa using eM,⟨rfl,rfl,rfl,Nat.le_refl _,λ _ _ _=>rfl⟩, .inl rfl,rfl,Oy.2⟩
   rcases eM.2 with ⟨rfl,rfl⟩|⟨g,Rv,cur,rfl,_,_,K8,_⟩
   .simp[Builtin.append_,a6x k1,sizeOf,typeInfo,k3,Builtin.lenOf,Builtin.firstCells]
   .simp[Builtin.append_,a6x k1,sizeOf,typeInfo,k3,Builtin.lenOf,Builtin.firstCells,K8,storeCells]
  | some ad =>
   obtain⟨v',w',m1,m2,m3,_,m5⟩:=a9f (P:=c.P) w base T ty e i zv τ.size b k1 k3 k6 k4 k5 Qs Hu v n l eM ad 0 cap [] (by simp) (by simp) (by simp) Ht Oy.1 Qe
   exact⟨v',w',[],m1,m2,m3,m5,rfl,Oy.2⟩
 .rcases h4 with h4|⟨bk,o',news,rfl,h8,h7⟩
  .exact absurd h4 hy
  .skip
   have hlen:news.length=ys.length * τ.size:=by
    have:=dA.length (n:=τ.size) _ h7 (by
     intro d hd
     obtain⟨y,_,rfl⟩:=a5K.1 hd
     exact Ty.cK τ y)
    simpa using this
   obtain⟨v',w',m1,m2,m3,_,m5⟩:=a9f (P:=c.P) w base T ty e i zv τ.size b k1 k3 k6 k4 k5 Qs Hu v n l eM ⟨bk,o',none⟩ ys.length cap news hlen (λ j u hj=>by rw[a7j];exact h8 j u hj) (dA.mz h7) Ht Oy.1 Qe
   exact⟨v',w',news,m1,m2,m3,m5,h7,Oy.2⟩
theorem Mj{ev:Operand->AV}(cY:∀ x,VR c G lk w (ev x) (a.eval x)){d l:Int}{lo:Option Operand}(h:qw d (lo.map ev)=some l):(lo=none/\l=d)\/∃ k,lo.map a.eval=some (.int k l):=by
 cases lo with
 | none =>
  simp only[a8M,qw,a5E] at h
  exact .inl ⟨rfl,h.symm⟩
 | some x =>
  simp only[a9r,qw] at h
  split at h
  .rename_i hn
   cases hn
  .rename_i k n hn
   simp only[a5E] at h hn
   subst h
   have hx:=cY x
   rw[hn] at hx
   obtain⟨hx,_⟩:=hx
   simp only[a5L,a5R] at hx
   exact .inr ⟨k,by simp[hx]⟩
  .cases h
theorem Kn{ev:Operand->AV}(cY:∀ x,VR c G lk w (ev x) (a.eval x)){l h:Int}{len cap:Nat}{lo hi:Option Operand}(sl:Bool)(hl:qw 0 (lo.map ev)=some l)(hh:qw (len:Int) (hi.map ev)=some h)
  (hc:iW l h len) (Ho:len<=cap) (P:Program) (w':World):(Instr.sliceBounds sl len cap (lo.map a.eval) (hi.map a.eval) none).run P w' = .ok (l.toNat,h.toNat,cap) w':=by
 obtain⟨h0,h1,h2⟩:=hc
 have e1:(h.toNat:Int)=h:=Int.toNat_of_nonneg (by omega)
 rcases Mj cY hl with ⟨rfl,rfl⟩|⟨k,hk⟩<;>rcases Mj cY hh with ⟨rfl,rfl⟩|⟨k',iR⟩
 .simp[Instr.sliceBounds]
 .simp[Instr.sliceBounds,iR,a9v,show 0<=h from by omega,show h<=(cap:Int) from by omega]
 .simp[Instr.sliceBounds,hk,a9v,h0,h1]
 .simp[Instr.sliceBounds,hk,iR,a9v,h0,h1,show 0<=h from by omega,show h<=(cap:Int) from by omega,e1]
theorem KC{n m:Int}{b:Nat}(h:jQ n m b):0<=n/\n<=m/\m<=140737488355328/\(b:Int) * m<=140737488355328:=by
 obtain⟨h1,h2,h3⟩:=h
 have e:m * ((b:Int)+1)=m * b+m:=by rw[Int.mul_add,Int.mul_one]
 have p:0<=m * (b:Int):=Int.mul_nonneg (by omega) (by omega)
 have q:(b:Int) * m=m * b:=Int.mul_comm _ _
 exact⟨h1,h2,by omega,by omega⟩
theorem V9(hE:bJ c.P c.E){T:TypeId}{τ:Ty}{b e:Nat}(hT:ae c.E.ty T=some (.slice τ,b,e)){n m:Int}(h:jQ n m b)(w:World)
  (cp:∀ w',bX (λ _=>False) w w'->∀ b,G.S b->w'.heap[b]?=w.heap[b]?) :
  ∃ cap cs,(Instr.makeSlice T (.int .i64 n) (.int .i64 m)).run c.P w = .ok (.slice (some ⟨w.heap.size,0,none⟩) n.toNat cap) (w.alloc (.cells cs e)) /\
   UI c G lk (w.alloc (.cells cs e)) (.slice (some ⟨w.heap.size,0,none⟩) n.toNat cap) (.row e τ (List.replicate n.toNat τ.zero)):=by
 obtain⟨v1,v2,v3,v4⟩:=KC h
 obtain⟨h1,_,i,z,h3,h4,h5,h6,h7⟩:=hE.slice hT
 have ZU:=IH (w:=w) (S:=G.S) h7
 have V2:=Rd.length _ ZU
 rw[Ty.cK,a6y] at V2
 have hr:=run_make (P:=c.P) w T e i z h1 h3 h6 .i64 .i64 n m v1 v2 (by rw[h5];omega) (by omega)
 refine⟨m.toNat,madeCells z.cells (m.toNat * i.size),hr,(madeCells z.cells (n.toNat * z.cells.size)).toList,?_,?_,by simp;omega⟩
 .refine⟨by simp[madeCells,V2], .inr ⟨w.heap.size,m.toNat,madeCells z.cells (m.toNat * i.size),by simp,a6N _,a7f w _,by simp;omega,by simp only[maxLen];omega,by simp[size_madeCells,h4],?_⟩⟩
  rw[h4,V2,List.length_replicate]
  exact AN _ _ _ (a7A _ (by omega))
 .rw[a9L]
  exact dA.aM (λ _ h=>h) (cp _ (fZ w _)) _ (Ey ZU n.toNat)
theorem bJ.map(hE:bJ c.P c.E){T:TypeId}{κ ε:Ty}(h:ae c.E.Sz T=some (κ,ε))(w:World) :
  ∃ kT eT,c.P.underlying T=some (.map kT eT)/\c.P.underlying kT=some (descOf κ)/\κ.key=true/\ε.key=true/\∃ z,(zeroValue eT).run c.P w = .ok z w/\ur ε ε.zero z:=by
 have:=hE.Sz T κ ε h
 unfold Nr at this
 split at this
 .rename_i k e hu
  split at this
  .rename_i κ' r ε' r' hk he
   simp only[a5I,a5M] at this
   obtain⟨rfl,rfl,h3,h4⟩:=this
   obtain⟨i,z,k1,k2,k3,k4⟩:=(hE.info he).ex
   have hz:=IH (w:=w) (S:=λ _=>False) k4
   refine⟨k,e,hu,?_,h3,h4,z,by simp[zeroValue,typeInfo,k1,k3],?_⟩
   .obtain⟨b,e'⟩:=r
    cases κ' with
    | int q=>exact hE.int hk
    | bool=>exact hE.bool hk
    | str=>exact hE.str hk
    | _=>cases h3
   .have hc:z.cells.toList=[z]:=by
     cases ε'<;>cases z<;>first|rfl|(cases h4;done)|(simp[xi,vP] at k4;done)
    rw[hc] at hz
    exact ur.of h4 hz
  .cases this
 .cases this
theorem F4(hE:bJ c.P c.E)(hI:bn c G sl n lk a w){lk':Nat->Option av}(cu:∀ id o,lk' id=some o->lk id=some o){ev:Operand->AV}(cY:∀ x,VR c G lk w (ev x) (a.eval x))
  {o:Oper} {vc:Vc} {v:AV} {ob:Option av} (hq:F0 c.E lk' ev o=some (vc,v,ob)) (eJ:vc.ok) {Q:Exit->Act->World->Prop} :
  o.wp c.P a w (vT c G sl n lk o.dst a w v ob) Q:=by
 unfold F0 at hq
 split at hq
 case h_1 x bw =>
  simp only[a5E,a5H] at hq
  obtain⟨rfl,rfl,rfl⟩:=hq
  exact cJ hI (by simp[execOp,bw]) (cY x)
 case h_2 x bw =>
  simp only[a5E,a5H] at hq
  obtain⟨rfl,rfl,rfl⟩:=hq
  exact cJ hI (by simp[execOp,bw]) (cY x)
 case h_3 cc x y bw =>
  split at hq
  .rename_i hc
   simp only[a5E,a5H] at hq
   obtain⟨rfl,rfl,rfl⟩:=hq
   have h1:=cY cc
   rw[hc] at h1
   have h1:[a.eval cc]=[.bool true]:=h1
   simp only[a5L,a5R] at h1
   exact cJ hI (by simp[execOp,bw,h1,asBool]) (cY x)
  .rename_i hc
   simp only[a5E,a5H] at hq
   obtain⟨rfl,rfl,rfl⟩:=hq
   have h1:=cY cc
   rw[hc] at h1
   have h1:[a.eval cc]=[.bool false]:=h1
   simp only[a5L,a5R] at h1
   exact cJ hI (by simp[execOp,bw,h1,asBool]) (cY y)
  .cases hq
 case h_4 T bw =>
  split at hq
  .rename_i d τ r hd hT
   simp only[a5E,a5H] at hq
   obtain⟨rfl,rfl,rfl⟩:=hq
   obtain⟨i,z,h1,h2,h3,h4⟩:=(hE.info hT).ex
   refine x7 hI (x := .pointer (some ⟨w.heap.size,0,none⟩)) (w':=w.alloc (.cells z.cells T)) ?_ (hI.alloc _) ⟨d,hd,rfl⟩ ?_ ?_
   .simp[execOp,bw,Instr.alloc,zeroValue,typeInfo,h1,h3,newVar,newRow]
   .exact⟨_,z.cells.toList,T,rfl,by simpa using heap_alloc_new w _,mq h4⟩
   .intro b hb
    simp only[dS,a5E] at hb
    subst hb
    simp
  .cases hq
 case h_5 T x bw =>
  split at hq
  .rename_i d τ r hd hT
   split at hq
   .split at hq
    .rename_i y hy
     simp only[a5E,a5H] at hq
     obtain⟨rfl,rfl,rfl⟩:=hq
     have oL:=eI.cells (Gt (c:=c) (G:=G) (lk:=lk) hy (cY x))
     have hk:=fZ w (.cells (a.eval x).cells T)
     have cz:(w.alloc (.cells (a.eval x).cells T)).heap.size=w.heap.size+1:=by simp
     have vR:=hI.grow (S':=λ b=>G.S b\/b=w.heap.size) hk (λ b hb=>⟨λ h=>h.elim id λ e=>by omega, .inl⟩) (λ b hb=>by
      rcases hb with hb|hb
      .have:=hI.dX b hb;omega
      .omega)
     have cS:(execOp a.eval o).run c.P w = .ok (.value (.pointer (some ⟨w.heap.size,0,none⟩))) (w.alloc (.cells (a.eval x).cells T)):=by
      simp[execOp,bw,Instr.box,newVar,newRow]
     unfold Oper.wp
     rw[cS]
     refine⟨_,_,rfl,vR,?_⟩
     refine⟨w.heap.size,0,(a.eval x).cells.toList,rfl, .inl (.inr rfl),?_,Rd.aM (λ _ h => .inl h) (λ b hb=>hk.block b (hI.dX b hb) λ h=>h) _ oL⟩
     have:=a7f w (.cells (a.eval x).cells T)
     exact BC (p:=[]) (c:=(a.eval x).cells.toList) (r:=[]) (by simpa using this)
    .cases hq
   .split at hq
    .rename_i cs mD
     simp only[a5E,a5H] at hq
     obtain⟨rfl,rfl,rfl⟩:=hq
     obtain⟨h1,_,_⟩:=xk mD (cY x)
     refine x7 hI (x := .pointer (some ⟨w.heap.size,0,none⟩)) (w':=w.alloc (.cells (a.eval x).cells T)) ?_ (hI.alloc _) ⟨d,hd,rfl⟩ ?_ ?_
     .simp[execOp,bw,Instr.box,newVar,newRow]
     .exact⟨_,(a.eval x).cells.toList,T,rfl,by simpa using heap_alloc_new w _,h1.imp λ u y _ hy=>hI.a1K (fZ w _) hy⟩
     .intro b hb
      simp only[dS,a5E] at hb
      subst hb
      simp
    .cases hq
  .cases hq
 case h_6 T parts bw =>
  split at hq
  .rename_i s r hT
   split at hq
   .rename_i cs mD
    simp only[a5E,a5H] at hq
    obtain⟨rfl,rfl,rfl⟩:=hq
    obtain⟨i,z,h1,h2,h3,h4⟩:=(hE.info hT).ex
    obtain⟨fs,h5,h6,h7⟩:=hE.st hT
    have VY:fs.toList.mapM (λ f=>(c.P.info? f.type).map λ i=>(f.offset,i.size))=some (fs.toList.map λ f=>(f.offset,c.P.cellsOf f.type)):=by
     have:∀ l:List Field,(∀ f∈l,∃ i,c.P.info? f.type=some i)->l.mapM (λ f=>(c.P.info? f.type).map λ i=>(f.offset,i.size))=some (l.map λ f=>(f.offset,c.P.cellsOf f.type)):=by
      intro l
      induction l with
      | nil=>intro _;rfl
      | cons f l ih =>
       intro hl
       obtain⟨i,hi⟩:=hl f (by simp)
       simp[a8m,hi,ih λ f hf=>hl f (by simp[hf]),Program.cellsOf]
     refine this _ λ f hf=>?_
     obtain⟨j,hj,hjf⟩:=a7p hf
     obtain⟨t,b,e,_,k2,_⟩:=h7 j f (by rw[Array.getElem?_eq_getElem (by simpa using hj)];simpa using hjf)
     obtain⟨i,_,hi,_⟩:=(hE.info k2).ex
     exact⟨i,hi⟩
    have ZI:∀ i t,s.gV[i]?=some t->(fs.toList.map λ f=>(f.offset,c.P.cellsOf f.type)).toArray[i]?=some (s.fH i,t.size):=by
     intro i t hi
     have bF:i<fs.size:=by have:=(a5W.1 hi).1;omega
     obtain⟨t',b,e,k1,k2,k3⟩:=h7 i fs[i] (a6M bF)
     rw[hi] at k1
     simp only[a5E] at k1
     subst k1
     obtain⟨i',_,oj,cz,_⟩:=(hE.info k2).ex
     simp[bF,k3,Program.cellsOf,oj,cz]
    obtain⟨l',h8,h9⟩:=EE (c:=c) (G:=G) (lk:=lk) (w:=w) ZI mD (aN.Dc cY _) (mq h4)
    have hb:c.P.built T ((parts.map λ (i,x)=>(i,a.eval x)).toList)=some l'.toArray:=by
     unfold Program.built
     rw[h1,h5]
     simp only[h3,VY]
     rw[<-h8]
     congr 1
     simp
    refine cJ hI (x := .agg l'.toArray) ?_ ⟨l',rfl,h9⟩
    simp[execOp,bw,run_build w T _ _ hb]
   .cases hq
  .cases hq
 case h_7 T len parts bw =>
  split at hq
  .rename_i d τ b e hd hT
   split at hq
   .rename_i hlen
    split at hq
    .rename_i xs np
     simp only[a5I] at hlen
     have Sc:=a5F hlen.1
     have hl2:=a6H hlen.2
     subst Sc
     obtain⟨h1,⟨b',e',h2⟩,i,z,h3,h4,h5,h6,h7⟩:=hE.slice hT
     have Hu:=τ.size_pos
     have Ht:τ.size<=100:=Ty.size_le τ
     have a3Z:parts.size * τ.size<=16777216:=a7T (Nat.mul_le_mul hl2 Ht) (by decide)
     obtain⟨r,h8,h9⟩:=Eh (c:=c) (G:=G) (lk:=lk) (w:=w) (τ:=τ) (place:=λ i=>some (i * τ.size,τ.size)) (λ _=>rfl) (l:=((Array.range (parts.size * τ.size)).map (λ j=>((if parts.size * τ.size=0 then #[] else z.cells:Array Value)[j % (if parts.size * τ.size=0 then #[] else z.cells:Array Value).size]!))).toList) np (aN.Dc cY _) (by simp)
     have tO:=An np
     simp only[a6B,a6y] at tO
     have cz:∀ d∈xs.map τ.aK,d.size=τ.size:=by
      intro d hd
      obtain⟨y,_,rfl⟩:=a5K.1 hd
      exact Ty.cK τ y
     have XK:=dA.length _ h9 cz
     simp only[a6B,tO] at XK
     simp only[a8K,a8d,a6C,a6K] at h8
     have cS:(execOp a.eval o).run c.P w = .ok (.value (.slice (some ⟨w.heap.size,0,none⟩) parts.size parts.size)) (w.alloc (.cells r.toArray e)):=by
      have e2:(parts.map λ (i,x)=>(i,a.eval x)).toList=parts.toList.map λ p=>(p.1,a.eval p.2):=by simp
      have l6:¬ (parts.size * τ.size>2 ^ 24):=by omega
      simp only[execOp,bw,Instr.buildSlice,a6d,a6x h1,a5S,hE.sizeOf h2,a5J l6,a6e]
      by_cases h0:parts.size * τ.size=0
      .simp only[h0,a7O,a6d,a6e,a5S,e2] at h8 ⊢
       rw[h8]
       simp[newRow]
      .simp only[h0,a9A,a6d,zeroValue,typeInfo,run_program,a5S,h3,h6,a6e,e2] at h8 ⊢
       rw[h8]
       simp[newRow]
     have ho:(w.alloc (.cells r.toArray e)).ownsRow 0 e τ.size (.slice (some ⟨w.heap.size,0,none⟩) parts.size parts.size) xs.length r:=by
      rw[tO]
      have:=World.ownsRow_lit (base:=0) (e:=e) (size:=τ.size) w r.toArray parts.size (Nat.zero_le _) (by simp only[maxLen];omega) (by simpa using XK)
      simpa using this
     have oL:=dA.aM (λ _ h=>h) (λ b hb=>hI.Q3 (fZ w (.cells r.toArray e)) b (.inl hb)) _ h9
     have jG:∀ b,dS (.slice (some ⟨w.heap.size,0,none⟩) parts.size parts.size)=some b->w.heap.size<=b/\b<(w.alloc (.cells r.toArray e)).heap.size:=by
      intro b hb
      simp only[dS,a5E] at hb
      subst hb
      simp
     split at hq
     .simp only[a5E,a5H] at hq
      obtain⟨rfl,rfl,rfl⟩:=hq
      exact VD hI cS (fZ w _) ho oL (by omega) jG
     .simp only[a5E,a5H] at hq
      obtain⟨rfl,rfl,rfl⟩:=hq
      exact x7 hI cS (hI.alloc _) ⟨d,hd,rfl⟩ ⟨r,ho,oL,by omega⟩ jG
    .cases hq
   .cases hq
  .cases hq
 case h_8 T ad bw =>
  split at hq
  .rename_i τ r hT
   split at hq
   .rename_i u hu
    simp only[a5E,a5H] at hq
    obtain⟨rfl,rfl,rfl⟩:=hq
    obtain⟨b,o',cs,h1,h2,h3,h4⟩:=rk hI.aH cu hu (cY ad)
    refine cJ hI ?_ h4
    simp only[execOp,bw,h1,a6d,nL hE hT h2 h3,a5S,a6e]
   .cases hq
  .cases hq
 case h_9 x bw =>
  have key:∀ u,ev x=u->(∃ b o,a.eval x = .pointer (some ⟨b,o,none⟩))->vc = .none->v=u->ob=none->o.wp c.P a w (vT c G sl n lk o.dst a w v ob) Q:=by
   rintro u hu ⟨b,o',hx⟩ _ rfl rfl
   refine cJ hI (x:=a.eval x) ?_ (hu ▸ cY x)
   simp only[execOp,bw,hx,a6e]
  have hx:=cY x
  split at hq
  .rename_i u hu
   simp only[a5E,a5H] at hq
   rw[hu] at hx
   obtain⟨b,o',cs,h1,_⟩:=hx
   exact key _ hu ⟨b,o',h1⟩ hq.1.symm hq.2.1.symm hq.2.2.symm
  .rename_i id off hu
   simp only[a5E,a5H] at hq
   rw[hu] at hx
   obtain⟨b,_,h1,_⟩:=hx
   exact key _ hu ⟨b,off,h1⟩ hq.1.symm hq.2.1.symm hq.2.2.symm
  .rename_i id i off hu
   simp only[a5E,a5H] at hq
   rw[hu] at hx
   obtain⟨b,_,_,_,_,_,_,_,_,h1⟩:=hx
   exact key _ hu ⟨b,_,h1⟩ hq.1.symm hq.2.1.symm hq.2.2.symm
  .cases hq
 case h_10 T x i bw =>
  split at hq
  .rename_i s r hT
   have hx:=cY x
   split at hq
   .rename_i u hu
    rw[hu] at hx
    split at hq
    .rename_i y hy
     have e:=TV.bd hy
     subst e
     split at hq
     .rename_i f hf
      simp only[a5E,a5H] at hq
      obtain⟨rfl,rfl,rfl⟩:=hq
      obtain⟨b,o',cs,h1,h2,h3,h4⟩:=hx
      have bF:i<s.gV.length:=by
       have:=(a5W.1 hf).1
       rw[<-aR.wo s y,a6B];exact this
      refine cJ hI (x := .pointer (some ⟨b,o'+s.fH i,none⟩)) ?_ ?_
      .simp only[execOp,bw,h1,a6d,lX hE hT bF,a5S,a6e]
      .refine⟨b,o'+s.fH i,(cs.drop (s.fH i)).take f.τ.size,rfl,h2,h3.part _ _,?_⟩
       exact BH hf h4
     .cases hq
    .cases hq
   .rename_i id off hu
    rw[hu] at hx
    split at hq
    .rename_i bF
     simp only[a5E,a5H] at hq
     obtain⟨rfl,rfl,rfl⟩:=hq
     have bF:i<s.gV.length:=by simpa [Nat.blt_eq] using bF
     obtain⟨b,h1,h2,h3⟩:=hx
     refine cJ hI (x := .pointer (some ⟨b,off+s.fH i,none⟩)) ?_ ⟨b,h1,rfl,h3⟩
     simp only[execOp,bw,h2,a6d,lX hE hT bF,a5S,a6e]
    .cases hq
   .rename_i id k off hu
    rw[hu] at hx
    split at hq
    .rename_i bF
     simp only[a5E,a5H] at hq
     obtain⟨rfl,rfl,rfl⟩:=hq
     have bF:i<s.gV.length:=by simpa [Nat.blt_eq] using bF
     obtain⟨b,m,cap,e,τ,xs,h1,h2,h3,h4⟩:=hx
     refine cJ hI (x := .pointer (some ⟨b,k * τ.size+(off+s.fH i),none⟩)) ?_ ⟨b,m,cap,e,τ,xs,h1,h2,h3,rfl⟩
     simp only[execOp,bw,h4,a6d,lX hE hT bF,a5S,a6e,a8z]
    .cases hq
   .cases hq
  .cases hq
 case h_11 T x i bw =>
  split at hq
  .rename_i s r hT
   have hx:=cY x
   split at hq
   .rename_i u hu
    rw[hu] at hx
    split at hq
    .rename_i y hy
     have e:=TV.bd hy
     subst e
     split at hq
     .rename_i f hf
      simp only[a5E,a5H] at hq
      obtain⟨rfl,rfl,rfl⟩:=hq
      obtain⟨cs,h1,h2⟩:=hx
      have hty:s.gV[i]?=some f.τ:=by rw[<-aR.wo s y,a7w,hf];rfl
      obtain⟨h3,h4⟩:=RO hf h2
      refine cJ hI (x:=DW f.τ ((cs.drop (s.fH i)).take f.τ.size)) ?_ (eI.mk_ (BH hf h2))
      simp only[execOp,bw,h1,a6d,NU hE hT hty h3,a5S,a6e]
     .cases hq
    .cases hq
   .rename_i cs hu
    rw[hu] at hx
    split at hq
    .rename_i τ kR
     split at hq
     .rename_i u hg
      simp only[a5E,a5H] at hq
      obtain⟨rfl,rfl,rfl⟩:=hq
      obtain⟨l,h1,h2⟩:=hx
      obtain⟨h3,h4,h5⟩:=BN h2 hg
      refine cJ hI (x:=DW τ ((l.drop (s.fH i)).take τ.size)) ?_ h3
      simp only[execOp,bw,h1,a6d,NU hE hT kR h5,a5S,a6e]
     .cases hq
    .cases hq
   .cases hq
  .cases hq
 case h_12 T x ix bw =>
  split at hq
  .rename_i τ r hT
   split at hq
   .rename_i k i hi
    have tM:=cY ix
    rw[hi] at tM
    obtain⟨tM,_⟩:=tM
    simp only[a5L,a5R] at tM
    have hx:=cY x
    split at hq
    .rename_i u hu
     rw[hu] at hx
     split at hq
     .rename_i xs np
      have e:=TV.bd np
      subst e
      simp only[a5E,a5H] at hq
      obtain⟨rfl,rfl,rfl⟩:=hq
      obtain⟨h0,h1⟩:=eJ
      obtain⟨ad,cap,h2,h3,h4,h5⟩:=nN hx
      rcases h5 with h5|⟨b,o',h5,h6,h7⟩
      .subst h5
       simp only[a6a] at h1
       omega
      .subst h5
       have bF:i.toNat<xs.length:=by omega
       obtain⟨cs,m1,m2,m3⟩:=dr.at_ (n:=τ.size) _ b o' h7 (by
        intro d hd
        obtain⟨y,_,rfl⟩:=a5K.1 hd
        exact Ty.cK τ y) i.toNat (τ.aK (xs.getD i.toNat τ.zero)) (by simp[List.getD,bF])
       refine cJ hI (x := .pointer (some ⟨b,o'+i.toNat * τ.size,none⟩)) ?_ ⟨b,_,cs,rfl, .inl h6,m3,m2⟩
       simp only[execOp,bw,h2,tM,a6d,ru hE hT h0 h1,a5S,a6e]
     .cases hq
    .rename_i id hu
     rw[hu] at hx
     split at hq
     .rename_i e' aZ xs hl
      split at hq
      .rename_i kR
       have kR:=a6f kR
       subst kR
       simp only[a5E,a5H] at hq
       obtain⟨rfl,rfl,rfl⟩:=hq
       obtain⟨h0,h1⟩:=eJ
       obtain⟨h2,_,_⟩:=hx
       have sT:=cu _ _ hl
       obtain⟨l,m1,_,_⟩:=hI.aH _ _ sT
       have bF:i.toNat<xs.length:=by omega
       rcases m1.2 with ⟨_,hn⟩|⟨g,cap,cur,hv,_⟩
       .omega
       .refine cJ hI (x := .pointer (some ⟨g,0+i.toNat * aZ.size,none⟩)) ?_ ⟨g,_,cap,e',aZ,xs,hv,sT,bF,by simp⟩
        simp only[execOp,bw,h2,hv,tM,a6d,ru hE hT h0 h1,a5S,a6e]
      .cases hq
     .cases hq
    .cases hq
   .cases hq
  .cases hq
 case h_13 T x ix bw =>
  split at hq
  .rename_i r hT
   split at hq
   .rename_i k i hi
    have tM:=cY ix
    rw[hi] at tM
    obtain⟨tM,_⟩:=tM
    simp only[a5L,a5R] at tM
    have hx:=cY x
    split at hq
    .rename_i xs hu
     rw[hu] at hx
     simp only[a5E,a5H] at hq
     obtain⟨rfl,rfl,rfl⟩:=hq
     obtain⟨s,h1,h2,h3⟩:=hx
     simp only[a5L,a5R] at h1
     subst h2
     have cz:s.data.toList.length=s.size:=a6y
     have eJ:aV i s.data.toList.length:=eJ
     unfold aV at eJ
     rw[cz] at eJ
     have bF:Int.toNat i<s.size:=by omega
     have he:s.data.toList.getD (Int.toNat i) 0=s[Int.toNat i]'bF:=by
      have h5:Int.toNat i<s.data.size:=bF
      rw[List.getD_eq_getElem?_getD,List.getElem?_eq_getElem (by simpa using h5)]
      rfl
     have hr:(execOp a.eval o).run c.P w = .ok (.value (.int .u8 (s[Int.toNat i]'bF).toNat)) w:=by
      simp only[execOp,bw,h1,tM,a6d,run_index_string w T s k i (hE.str hT)]
      rw[dif_pos eJ]
      rfl
     refine cJ hI hr ⟨by rw[he],?_⟩
     have:=(s.data.toList.getD (Int.toNat i) 0).toNat_lt
     exact⟨Int.natCast_nonneg _,by simp only[IntKind.max,IntKind.signed,IntKind.bits,a6h,a9A];omega⟩
    .cases hq
   .cases hq
  .cases hq
 case h_14 op T x y yt bw =>
  split at hq
  .rename_i p u hu
   simp only[a5E,a5H] at hq
   obtain⟨rfl,rfl,rfl⟩:=hq
   obtain⟨z,h1,h2⟩:=To hE x y hu eJ (cY x) (cY y)
   refine cJ hI ?_ h2
   simp only[execOp,bw]
   rw[a6d,h1]
   rfl
  .cases hq
 case h_15 op xt x bw =>
  split at hq
  .rename_i b hb
   simp only[a5E,a5H] at hq
   obtain⟨rfl,rfl,rfl⟩:=hq
   have hx:=cY x
   rw[hb] at hx
   have hx:[a.eval x]=[.bool b]:=hx
   simp only[a5L,a5R] at hx
   exact cJ hI (x := .bool !b) (by simp[execOp,bw,hx,Op.unary]) rfl
  .rename_i k i hb
   simp only[a5E,a5H] at hq
   obtain⟨rfl,rfl,rfl⟩:=hq
   have hx:=cY x
   rw[hb] at hx
   obtain⟨hx,_⟩:=hx
   simp only[a5L,a5R] at hx
   have hr:=eA eJ
   have h0:(0:Int) - i = -i:=Int.zero_sub _
   exact cJ hI (x := .int k (-i)) (by simp[execOp,bw,hx,Op.unary,Op.intArith,h0,tE hr]) ⟨rfl,hr⟩
  .cases hq
 case h_16 src dst x bw =>
  split at hq
  .rename_i k1 r1 k2 r2 hs hd
   split at hq
   .rename_i k3 i yl
    simp only[a5E,a5H] at hq
    obtain⟨rfl,rfl,rfl⟩:=hq
    have hx:=cY x
    rw[yl] at hx
    obtain⟨hx,_⟩:=hx
    simp only[a5L,a5R] at hx
    have hr:=eA eJ
    refine cJ hI (x := .int k2 i) ?_ ⟨rfl,hr⟩
    simp[execOp,bw,hx,convert,a6x (hE.int hs),a6x (hE.int hd),Conv.intToInt,tE hr]
   .cases hq
  .cases hq
 case h_18 t i bw =>
  split at hq
  .rename_i vs ht
   split at hq
   .rename_i u hu
    simp only[a5E,a5H] at hq
    obtain⟨rfl,rfl,rfl⟩:=hq
    have hx:=cY t
    rw[ht] at hx
    obtain⟨l,h1,h2⟩:=hx
    obtain⟨z,h3,h4⟩:=h2.at_ i u hu
    refine cJ hI (x:=z) ?_ ?_
    .simp[execOp,bw,Instr.extract,h1,h3]
    .cases u<;>first|exact h4|exact h4.elim|trivial
   .cases hq
  .cases hq
 case h_19 T l cc bw =>
  split at hq
  .rename_i d τ b e hd hT
   split at hq
   .rename_i m m' hm hm'
    simp only[a5E,a5H] at hq
    obtain⟨rfl,rfl,rfl⟩:=hq
    have hl:=cY l
    have hc:=cY cc
    rw[hm] at hl
    rw[hm'] at hc
    obtain⟨hl,_⟩:=hl
    obtain⟨hc,_⟩:=hc
    simp only[a5L,a5R] at hl hc
    obtain⟨cap,cs,h1,h2⟩:=V9 (c:=c) (G:=G) (lk:=lk) hE hT eJ w (λ w' hk b hb=>hI.Q3 hk b (.inl hb))
    refine x7 hI ?_ (hI.alloc _) ⟨d,hd,rfl⟩ h2 ?_
    .simp only[execOp,bw,hl,hc,a6d,h1,a5S,a6e]
    .intro b hb
     simp only[dS,a5E] at hb
     subst hb
     simp
   .cases hq
  .cases hq
 case h_17 T x lo hi mx bw =>
  split at hq
  .rename_i τ r hT
   have hx:=cY x
   split at hq
   .rename_i u hu
    rw[hu] at hx
    split at hq
    .rename_i xs np
     have e:=TV.bd np
     subst e
     split at hq
     .rename_i l h hl hh
      simp only[a5E,a5H] at hq
      obtain⟨rfl,rfl,rfl⟩:=hq
      obtain⟨ad,cap,h2,h3,h4,h5⟩:=nN hx
      obtain⟨k1,⟨b',e',k2⟩,_⟩:=hE.slice hT
      have hb:=Kn cY true hl hh eJ h3 c.P w
      obtain⟨v0,v1,v2⟩:=eJ
      have cS:(execOp a.eval o).run c.P w = .ok (.value (.slice (if cap=l.toNat then ad else ad.map (·.add (l.toNat * τ.size))) (h.toNat - l.toNat) (cap - l.toNat))) w:=by
       simp only[execOp,bw,h2,Instr.sliceAt,a6d,a6x k1,a5S,Instr.slice,a8M,hb,hE.sizeOf k2,a6e]
      refine cJ hI cS ?_
      have hlen:((xs.take h.toNat).drop l.toNat).length=h.toNat - l.toNat:=by
       rw[a6S,a6R];omega
      refine Wo hlen (by omega) ?_ (by omega) ?_
      .have:=hx
       obtain⟨ad',Rv,m1,m2,m3,_⟩:=this
       rw[h2] at m1
       simp only[a5L,a7B,a5R] at m1
       obtain⟨_,_,rfl⟩:=m1
       omega
      .rcases a6w l.toNat h.toNat with bF|Qk
       .right
        rcases h5 with h5|⟨b,o',rfl,h6,h7⟩
        .subst h5
         simp only[a6a] at v2
         omega
        .refine⟨b,o'+l.toNat * τ.size,?_,h6,?_⟩
         .rw[a5J (by omega)]
          simp[a7j]
         .rw[List.map_drop,List.map_take]
          refine dr.WZ _ _ _ _ (dr.YN _ _ _ _ h7) ?_
          intro d hd
          obtain⟨y,_,rfl⟩:=a5K.1 (List.mem_of_mem_take hd)
          exact Ty.cK τ y
       .left
        exact a6I (by omega)
     .cases hq
    .cases hq
   .cases hq
  .rename_i r hT
   have hx:=cY x
   split at hq
   .rename_i xs hu
    rw[hu] at hx
    split at hq
    .rename_i l h hl hh
     simp only[a5E,a5H] at hq
     obtain⟨rfl,rfl,rfl⟩:=hq
     obtain⟨s,h1,h2,h3⟩:=hx
     simp only[a5L,a5R] at h1
     subst h2
     have cz:s.data.toList.length=s.size:=a6y
     rw[cz] at eJ hh
     have hb:=Kn cY false hl hh eJ (a6b _) c.P w
     obtain⟨v0,v1,v2⟩:=eJ
     refine cJ hI (x := .string (s.extract l.toNat h.toNat)) ?_ ⟨_,rfl,?_,?_⟩
     .have l6:¬ ((none:Option Value).isSome=true):=by simp
      simp only[execOp,bw,h1,Instr.sliceAt,a6d,a6x (hE.str hT),a5S,Instr.slice,a8M,a5J l6,hb,a6e]
     .rw[Lib.extract_data,List.drop_take]
     .have:(s.extract l.toNat h.toNat).size<=s.size:=by
       rw[ByteArray.size_extract];omega
      omega
    .cases hq
   .cases hq
  .cases hq
 case h_20 cl bw =>
  have gb:=aN.pG cY cl.args.toList
  split at hq
  .rename_i kQ
   split at hq
   .rename_i T v1 Qa zG
    rw[zG] at gb
    match np:cl.args.toList.map a.eval,gb with
    | [x],gb =>
     have hx:=gb.1
     have Hk:cl.argTypes = #[T]:=by rw[<-a6K (xs:=cl.argTypes),Qa]
     have Hy:cl.args.map a.eval = #[x]:=by rw[<-a6K (xs:=cl.args.map a.eval),a7P,np]
     have MY:(execOp a.eval o)=(do let d <-resolve a.eval cl o.type;invoke d.target d.args):=by simp[execOp,bw]
     have Kv:(execOp a.eval o).run c.P w=((Builtin.len_ #[T] o.type #[x]).run c.P w).andThen λ v w => .ok (.value v) w:=by
      rw[MY]
      simp[resolve,kQ,invoke,builtin,Hk,Hy]
     split at hq
     .rename_i t r hT
      obtain⟨k1,_,_⟩:=hE.slice hT
      have R5:c.P.elem T=r.2:=by simp[Program.elem,k1]
      have cS:∀ ad len cap,x = .slice ad len cap->(execOp a.eval o).run c.P w = .ok (.value (.int .i64 len)) w:=by
       intro ad len cap hxx
       rw[Kv,hxx,run_len_slice w T o.type ad len cap (by rw[R5];exact k1)]
       rfl
      have iX:∀ m:Nat,m<=140737488355328->IntKind.i64.min<=(m:Int)/\(m:Int)<=IntKind.i64.max:=λ m hm=>eA (k := .i64) ⟨by omega,by omega⟩
      split at hq
      .simp only[a5E,a5H] at hq
       obtain⟨rfl,rfl,rfl⟩:=hq
       exact cJ hI (cS _ _ _ hx) ⟨rfl,iX 0 (by omega)⟩
      .rename_i t' xs
       simp only[a5E,a5H] at hq
       obtain⟨rfl,rfl,rfl⟩:=hq
       obtain⟨ad,cap,h2,h3,h4,h5⟩:=nN hx
       exact cJ hI (cS _ _ _ h2) ⟨rfl,iX _ h4⟩
      .rename_i id
       split at hq
       .rename_i e' aZ xs hl
        simp only[a5E,a5H] at hq
        obtain⟨rfl,rfl,rfl⟩:=hq
        obtain⟨h2,_,_⟩:=hx
        have sT:=cu _ _ hl
        obtain⟨ad,cap,h3,_,h4,_⟩:=nN (t:=aZ) (Vh (hI.aH _ _ sT) sT)
        exact cJ hI (cS _ _ _ (h2.trans h3)) ⟨rfl,iX _ h4⟩
       .cases hq
      .cases hq
     .rename_i r hT
      split at hq
      .rename_i xs
       simp only[a5E,a5H] at hq
       obtain⟨rfl,rfl,rfl⟩:=hq
       obtain⟨s,h1,h2,h3⟩:=hx
       simp only[a5L,a5R] at h1
       subst h2
       have cz:s.data.toList.length=s.size:=a6y
       have iX:cq .i64 (s.size:Int):=⟨by omega,by omega⟩
       refine cJ hI (x := .int .i64 s.size) ?_ ⟨by rw[cz],by rw[cz];exact eA iX⟩
       rw[Kv,h1,run_len_string w T o.type s (hE.str hT)]
       rfl
      .cases hq
     .rename_i hT
      split at hq
      .cases hq
      .cases hq
     .cases hq
   .cases hq
  .rename_i kQ
   split at hq
   .rename_i d T T' hd Qa
    split at hq
    .rename_i τ b e MP hT
     split at hq
     .rename_i y zG
      split at hq
      .rename_i ys Hz
       simp only[a5E,a5H] at hq
       obtain⟨rfl,rfl,rfl⟩:=hq
       have MP:=a5F MP
       subst MP
       rw[zG] at gb
       match np:cl.args.toList.map a.eval,gb with
       | [x,z],gb =>
        obtain⟨hx,hz,_⟩:=gb
        have hx:x = .slice none 0 0:=hx
        subst hx
        have Hk:cl.argTypes = #[T,T]:=by rw[<-a6K (xs:=cl.argTypes),Qa]
        have Hy:cl.args.map a.eval = #[.slice none 0 0,z]:=by rw[<-a6K (xs:=cl.args.map a.eval),a7P,np]
        have Kv:(execOp a.eval o).run c.P w=((Builtin.append_ #[T,T] o.type #[.slice none 0 0,z]).run c.P w).andThen λ v w => .ok (.value v) w:=by
         simp[execOp,bw,resolve,kQ,invoke,builtin,Hk,Hy]
        have hzc:C1 c G lk w y z:=by
         refine hz.Py ?_
         cases y with
         | aS u =>
          have e:=TV.bd Hz
          subst e
          rfl
         | nil=>rfl
         | row i=>rfl
         | aB i=>rfl
         | _=>cases Hz
        have oL:=UJ hI.aH (Cs cu) SA Hz hzc
        obtain⟨v',w',news,m1,m2,m3,m4,m5,m6⟩:=Ki (w:=w) (base:=w.heap.size) hE hT (World.ownsRow_nil w _ e τ.size) (a6b _) oL (n:=0) (by rw[a6X];exact eJ) o.type
        have hk:bX (λ _=>False) w w':=⟨m3.os,m3.tape,m3.output,m3.size,λ b hb _=>m3.block b hb (by simp[Value.ownBlock])⟩
        simp only[a6X,a6C] at m2
        refine x7 hI (x:=v') (w':=w') ?_ (hI.grow (S':=G.S) hk (λ _ _=>Iff.rfl) (λ b hb=>Nat.lt_of_lt_of_le (hI.dX b hb) hk.size)) ⟨d,hd,rfl⟩ ⟨news,?_,?_,by simpa using m6⟩ ?_
        .rw[Kv,m1];rfl
        .exact⟨m2.1,m2.2.imp id λ ⟨g,cap,cur,q1,q2,q3⟩=>⟨g,cap,cur,q1,a6N _,q3⟩⟩
        .exact dA.aM (λ _ h=>h) (λ b hb=>hI.Q3 hk b (.inl hb)) _ m5
        .intro b hb
         have La:=(sw (w:=w') (v:=v') (e:=e) ⟨m2.1,m2.2.imp id λ ⟨g,cap,cur,q1,q2,q3⟩=>⟨g,cap,cur,q1,a6N _,q3⟩⟩)
         have cw:v'.ownBlock=some b:=La.trans hb
         exact m2.lt b cw
      .cases hq
     .cases hq
    .cases hq
   .cases hq
  .rename_i f kQ
   exact Kp hE hI cu hq eJ gb (λ tK=>lB bw kQ rfl tK)
  .rename_i t kQ
   split at hq
   .rename_i f hf
    have hx:=cY (.tmp t)
    rw[hf] at hx
    exact Kp hE hI cu hq eJ gb (λ tK=>lB bw kQ hx tK)
   .rename_i f cs hf
    have hx:=cY (.tmp t)
    rw[hf] at hx
    exact BB hE hI cu hq eJ gb bw kQ hx
   .rename_i v hf
    have hx:=cY (.tmp t)
    rw[hf] at hx
    exact BB hE hI cu hq eJ gb bw kQ hx
   .cases hq
  .cases hq
 case h_21 T bw =>
  cases hq
 case h_22 T x ix ok bw=>cases hq
 case h_23 fn first captured bw =>
  split at hq
  .rename_i f Zx Ho
   have mD:=aN.pG cY captured.toList
   have cS:(execOp a.eval o).run c.P w = .ok (.value (.func (.func f) #[] (captured.toList.map a.eval).toArray)) w:=by
    have hf:first = #[]:=by rw[<-a6K (xs:=first),Zx]
    simp[execOp,bw,Instr.makeFunc,hf]
    apply a9z
    simp
   split at hq
   .rename_i nm
    simp only[a5E,a5H] at hq
    obtain⟨rfl,rfl,rfl⟩:=hq
    rw[nm] at mD
    match hl:captured.toList.map a.eval,mD with
    | [],_ =>
     rw[hl] at cS
     exact cJ hI cS rfl
   .simp only[a5E,a5H] at hq
    obtain⟨rfl,rfl,rfl⟩:=hq
    exact cJ hI cS ⟨_,rfl,mD.imp λ u y hu hy=>hy.S8 (a6i.1 Ho u hu)⟩
  .cases hq
 case h_24=>cases hq
end
end Go.Proofs.YtnehkikdlnmebaaGreatDoor

namespace Go.Proofs.YtnehkikdlnmebaaGreatDoor
theorem Da(f:av->av):∀ (l:List (Nat×av)) (j:Nat),ae (l.map λ p=>(p.1,f p.2)) j=(ae l j).map f
 | [],_=>rfl
 | (k,o)::r,j=>by
  simp only[a6n,ae]
  split
  .rfl
  .exact Da f r j
theorem eo(id:Nat):∀ (l:List (Nat×av)) (j:Nat),ae (bK id l) j=if j=id then none else ae l j
 | [],_=>by simp[bK,ae]
 | (k,o)::r,j=>by
  simp only[bK]
  split
  .rename_i h
   have h:=a5F h
   subst h
   rw[eo k r j]
   by_cases hj:j=k
   .simp[hj]
   .rw[a5J hj,a5J hj]
    simp only[ae]
    split
    .rename_i h;exact absurd (a5F h).symm hj
    .rfl
  .rename_i h
   have hk:k≠id:=λ e=>by subst e;simp at h
   simp only[ae]
   split
   .rename_i h'
    have h':=a5F h'
    subst h'
    rw[a5J hk]
   .exact eo id r j
theorem dE(k:Nat)(o:av)(l:List (Nat×av))(j:Nat):ae ((k,o)::l) j=if j=k then some o else ae l j:=by
 simp only[ae]
 split
 .rename_i h;rw[a5T (a5F h).symm]
 .rename_i h
  have:j≠k:=λ e=>by subst e;simp at h
  rw[a5J this]
theorem rv(l:List AV)(d:Nat)(v:AV)(o:List (Nat×av)):af.sl ⟨l.set d v,o⟩=lL l.length (af.sl ⟨l,o⟩) (some d) v:=by
 funext i
 simp only[af.sl,lL,a6o,List.getElem?_set,a5E]
 by_cases h:d=i
 .subst h
  by_cases hl:d<l.length
  .simp[hl]
  .simp[hl]
 .simp[h]
theorem Vn(s:af)(d:Option Nat)(v:AV):(s.put d v).sl=lL s.aw.length s.sl d v:=by
 cases d with
 | none=>funext i;simp[af.put,lL]
 | some d=>exact rv s.aw d v s.aH
theorem Ph(s:af)(d:Option Nat)(v:AV):(s.put d v).ae=s.ae:=by cases d<;>rfl
theorem KA(s:af)(d:Option Nat)(v:AV):(s.put d v).aw.length=s.aw.length:=by cases d<;>simp[af.put]
theorem Pv(s:af)(id:Nat):(s.bW id).sl=λ i=>(s.sl i).kill id:=by
 funext i
 simp only[af.sl,af.bW,a6o,a7w]
 cases s.aw[i]?<;>simp[AV.kill,AV.refs]
theorem dY(s:af)(id:Nat):(s.bW id).ae=λ i=>(s.ae i).map (av.kill id):=by
 funext i;exact Da _ _ _
section
variable {c:Ctx} {G:Gh} {s:af} {a:Act} {w w':World}
theorem Inv.put(h:Inv c G s a w){d:Option Nat}{v:AV}{x:Value}(hv:VR c G s.ae w v x):Inv c G (s.put d v) (a.put d x) w:=by
 unfold Inv
 rw[Vn,Ph,KA]
 exact bn.put h hv
theorem Inv.clear(h:Inv c G s a w)(id:Nat):bn c G (s.bW id).sl s.aw.length (λ i=>if i=id then none else (s.bW id).ae i) a w /\
  (∀ i,((s.bW id).sl i).refs id=false)/\∀ i o,(s.bW id).ae i=some o->o.refs id=false:=by
 have h1:=bn.bW h id
 have hs:∀ i,((s.bW id).sl i).refs id=false:=λ i=>by rw[Pv];exact zH id _
 have ho:∀ i o,(s.bW id).ae i=some o->o.refs id=false:=λ i o cm=>by
  rw[dY] at cm
  simp only[a6r] at cm
  obtain⟨o',_,rfl⟩:=cm
  cases o' with
  | box cs=>exact CE id cs
  | row e τ xs=>rfl
  | aB τ xs=>rfl
  | map m=>rfl
 refine⟨?_,hs,ho⟩
 rw[Pv,dY]
 exact bn.Y8 h1 id (λ i=>zH id _) (λ i o cm _=>by
  have:=ho i o (by rw[dY];exact cm)
  exact this)
theorem OB(id:Nat)(o:av):(o.kill id).refs id=false:=by
 cases o with
 | box cs=>exact CE id cs
 | row e τ xs=>rfl
 | aB τ xs=>rfl
 | map m=>rfl
theorem Inv.Va(h:Inv c G s a w){id:Nat}{v:AV}{o:av}{x:Value}(bF:id<400000)(hN:UI c G s.ae w x o)(hL:LV (some id) v o)
  (kP:∀ b,dS x=some b->(c.w0.heap.size<=b\/c.X b)/\¬ G.S b/\b<w.heap.size/\(∀ i o',i≠id->s.ae i=some o'->dS (G.η i)≠some b)/\∀ j τ xs,s.ae j=some (.aB τ xs)->b∉G.φ j) :
  Inv c ⟨G.S,λ i=>if i=id then x else G.η i,G.φ⟩ (s.lay (some id) v (some o)) (a.put (some id) x) w:=by
 obtain⟨h1,h2,h3⟩:=h.clear id
 have cu:(s.lay (some id) v (some o)).ae=λ i=>if i=id then some (o.kill id) else (if i=id then none else (s.bW id).ae i):=by
  funext i
  show ae ((id,o.kill id)::bK id (s.bW id).aH) i=_
  rw[dE,eo]
  rfl
 have FF:(s.lay (some id) v (some o)).sl=lL s.aw.length (s.bW id).sl (some id) v:=by
  have:=rv (s.bW id).aw id v ((id,o.kill id)::bK id (s.bW id).aH)
  rw[show (s.bW id).aw.length=s.aw.length from by simp[af.bW]] at this
  exact this
 have hlen:(s.lay (some id) v (some o)).aw.length=s.aw.length:=by simp[af.lay,af.bW]
 have rH:OR c ⟨G.S,λ i=>if i=id then x else G.η i,G.φ⟩ (λ i=>if i=id then some (o.kill id) else (if i=id then none else (s.bW id).ae i)) w id (o.kill id):=by
  cases o with
  | box cs =>
   obtain⟨b,l,t,k1,k2,k3⟩:=hN
   refine⟨b,l,t,by simp[k1],k2,aN.eB _ (k3.imp λ u y _ hy=>?_)⟩
   refine (hy.kill id).mono (λ j hj=>?_) (λ _ h=>h) (λ _ _=>rfl)
   have dU:j≠id:=λ e=>by subst e;rw[zH] at hj;cases hj
   simp only[a5J dU]
   exact⟨by rw[dY];exact F5 id _,trivial⟩
  | row e τ xs =>
   obtain⟨l,k1,k2,k3⟩:=hN
   exact⟨l,by simpa using k1,k2,k3⟩
  | aB τ xs=>exact hN.elim
  | map m =>
   obtain⟨b,es,clock,k1,k2,k3⟩:=hN
   exact⟨b,es,clock,by simp[k1],k2,k3⟩
 have Se:df (some (o.kill id))=false:=by
  cases o with
  | aB τ xs=>exact hN.elim
  | _=>rfl
 have h4:=bn.newObj h1 id (o.kill id) x (by simp) h2 (λ i p uv=>by
  by_cases hi:i=id
  .simp[hi] at uv
  .rw[a5J hi] at uv
   exact h3 i p uv) (OB id o) rH Se (.inr bF) (λ b hb=>by
  obtain⟨q1,q2,q3,q4,q5⟩:=kP b hb
  refine⟨q1,q2,q3,λ i p uv=>?_,λ j τ xs hj=>?_⟩
  .by_cases hi:i=id
   .simp[hi] at uv
   .rw[a5J hi,dY] at uv
    simp only[a6r] at uv
    obtain⟨p',Qn,_⟩:=uv
    exact q4 i p' hi Qn
  .by_cases hi:j=id
   .simp[hi] at hj
   .rw[a5J hi,dY] at hj
    exact q5 j τ xs (ly hj))
 unfold Inv
 rw[FF,cu,hlen]
 refine bn.put h4 ?_
 cases o with
 | box cs =>
  obtain⟨i,hi,rfl⟩:=hL
  simp only[a5E] at hi
  subst hi
  obtain⟨b,l,t,k1,k2,k3⟩:=hN
  exact⟨b,by simp[k1],k1,by simp[av.kill,gG]⟩
 | row e τ xs =>
  obtain⟨i,hi,rfl⟩:=hL
  simp only[a5E] at hi
  subst hi
  obtain⟨l,k1,k2,k3⟩:=hN
  refine⟨by simp,by simp[av.kill,isRow],?_⟩
  rcases k1.2 with ⟨rfl,_⟩|⟨g,cap,cur,rfl,_⟩
  .exact⟨_,_,_,rfl⟩
  .exact⟨_,_,_,rfl⟩
 | aB τ xs=>exact hN.elim
 | map m =>
  obtain⟨i,hi,rfl⟩:=hL
  simp only[a5E] at hi
  subst hi
  obtain⟨b,es,clock,k1,k2,k3⟩:=hN
  exact⟨by simp,by simp[av.kill,FG],b,k1⟩
theorem Nk(h0:Inv c G s a w){d:Option Nat}(Fw:tI d=true){v:AV}{ob:Option av}{a':Act}(h:vT c G s.sl s.aw.length s.ae d a w v ob a' w'):∃ G',Inv c G' (s.lay d v ob) a' w':=by
 obtain⟨x,S',rfl,hI,hx⟩:=h
 cases ob with
 | none=>exact⟨_,by cases d<;>exact Inv.put (s:=s) hI hx⟩
 | some o =>
  obtain⟨hL,hN,hb⟩:=hx
  have hd:∃ i,d=some i:=by cases o<;>first|exact⟨_,hL.choose_spec.1⟩|exact hL.elim
  obtain⟨i,rfl⟩:=hd
  refine⟨_,Inv.Va (s:=s) hI (a6H Fw) hN hL λ b Ja=>?_⟩
  obtain⟨h1,h2,h3⟩:=hb b Ja
  have hle:=h0.aM.size
  refine⟨by omega,h3,h2,λ j o' _ hj K6=>?_,λ j τ xs hj K6=>?_⟩
  .have:=(h0.place j o' b hj K6).2.2
   omega
  .have:=(h0.aT.pl j τ xs b hj K6).2.2.1
   omega
theorem Rz{k:IntKind}{n:Int}(h:Mq k n=true):k.min<=n/\n<=k.max:=by
 unfold Mq at h
 split at h
 .rename_i m
  split at h<;>have h:=a6H h<;>try (simp[IntKind.min,IntKind.max,IntKind.signed,IntKind.bits];omega)
  cases k<;>simp_all [IntKind.min,IntKind.max,IntKind.signed,IntKind.bits]<;>omega
 .rename_i m
  split at h
  .have h:=a6H h
   simp[IntKind.min,IntKind.max,IntKind.signed,IntKind.bits]
   omega
  .cases h
theorem Ed(lk:Nat->Option av)(v:Value):C1 c G lk w (GN v) v:=by
 unfold GN
 split
 .split
  .rename_i h
   exact⟨rfl,rfl,Rz h⟩
  .trivial
 .exact⟨rfl,rfl⟩
 .split
  .rename_i sv _ h
   have h:=a6H h
   exact⟨rfl,sv,rfl,rfl,by have:sv.size=sv.data.size:=rfl;omega⟩
  .trivial
 .rfl
 .trivial
theorem bp(h:Inv c G s a w)(x:Operand):VR c G s.ae w (s.eval x) (a.eval x):=by
 cases x with
 | tmp t=>exact h.aw t
 | const v =>
  simp only[af.eval,Act.eval]
  unfold Ry
  split
  .rename_i cs
   refine⟨cs.toList,rfl,aN.eB _ ?_⟩
   have:∀ l:List Value,aN (λ u y=>C1 c G s.ae w (GN u) y) l l:=by
    intro l
    induction l with
    | nil=>trivial
    | cons u r ih=>exact⟨Ed _ u,ih⟩
   exact this _
  .exact (Ed _ v).hJ
 | global g=>trivial
 | func f=>rfl
theorem oi{g:Nat}{Wb cs:Array Value}{t:TypeId}{fr:Nat×Nat}(w:World)(hg:w.heap[g]?=some (.cells Wb t fr))(k:Nat)(hk:k≠g):(w.setRow g cs).heap[k]?=w.heap[k]?:=setRow_other w g k cs hk
theorem zT(hE:bJ c.P c.E){T:TypeId}{τ:Ty}{b e:Nat}(hT:ae c.E.ty T=some (τ,b,e)){g o:Nat}{l:List Value}{t:TypeId}{x:Value}(hg:w.heap[g]?=some (.cells l.toArray t (0,0)))
  (hx:x.cells.toList.length=τ.size) (h1:∀ u∈x.cells.toList,u.oneCell'=true) (BY:o+τ.size<=l.length) :
  (Instr.storeAt T (.pointer (some ⟨g,o,none⟩)) x).run c.P w = .ok () (w.setRow g (l.take o++x.cells.toList++l.drop (o+τ.size)).toArray):=by
 have hn:¬ (x.cells.size≠τ.size):=by simpa using hx
 simp only[Instr.storeAt,Instr.sureAddr,storeVar,a6d,a6e,a5S,hE.sizeOf hT,a5J hn]
 have:=run_storeCells_at c.P g o t x.cells.toList 0 l.toArray w hg (by simp at hx ⊢;omega) h1
 simpa [hx] using this
theorem OC{cs new dJ:List AV}{off:Nat}(h:putCells cs off new=some dJ):off+new.length<=cs.length/\dJ=cs.take off++(new++cs.drop (off+new.length)):=by
 unfold putCells at h
 split at h
 .rename_i hb
  simp only[a5E] at h
  exact⟨a6H hb,h.symm⟩
 .cases h
theorem Inv.store(hE:bJ c.P c.E)(h:Inv c G s a w){T:TypeId}{τ:Ty}{bt e:Nat}(hT:ae c.E.ty T=some (τ,bt,e)){id off:Nat}{cs new dJ:List AV}{x p:Value}(aW:s.ae id=some (.box cs))(hp:VR c G s.ae w (.ptr id off) p)
  (rH:∃ v,cellsOf τ v=some new/\VR c G s.ae w v x) (B4:putCells cs off new=some dJ) :
  ∃ w',(Instr.storeAt T p x).run c.P w = .ok () w'/\Inv c G { s with aH:=(id, .box dJ)::bK id s.aH } a w':=by
 obtain⟨v,hv,hx⟩:=rH
 obtain⟨h1,h2,h3⟩:=xk hv hx
 obtain⟨h4,rfl⟩:=OC B4
 obtain⟨b,k1,rfl,_⟩:=hp
 obtain⟨b',l,t,k2,k3,k4⟩:=h.aH id _ aW
 rw[k1] at k2
 simp only[a8B,a5E,a7K,a5R] at k2
 subst k2
 have hlen:=h1.length
 have VT:=k4.length
 have cS:=zT (c:=c) hE hT (o:=off) (x:=x) k3 (by omega) h2 (by omega)
 refine⟨_,cS,?_⟩
 have FF:af.sl { s with aH:=(id, .box (cs.take off++(new++cs.drop (off+new.length))))::bK id s.aH }=s.sl:=rfl
 have cu:af.ae { s with aH:=(id, .box (cs.take off++(new++cs.drop (off+new.length))))::bK id s.aH }=λ i=>if i=id then some (.box (cs.take off++(new++cs.drop (off+new.length)))) else s.ae i:=by
  funext i
  show ae (_::bK id s.aH) i=_
  rw[dE,eo]
  by_cases hi:i=id
  .simp[hi]
  .simp[hi];rfl
 unfold Inv
 rw[FF,cu]
 have cp:∀ k,St c G.S k->(w.setRow b (l.take off++x.cells.toList++l.drop (off+τ.size)).toArray).heap[k]?=w.heap[k]?:=λ k hk=>oi w k3 k λ e=>by
  subst e
  obtain⟨q1,q2,q3⟩:=h.place id _ k aW (by rw[k1];rfl)
  rcases hk with hk|hk
  .exact q2 hk
  .exact q1.elim (λ q=>by omega) hk.2.1
 have gd:∀ j,er (s.ae j) ((λ i=>if i=id then some (av.box (cs.take off++(new++cs.drop (off+new.length)))) else s.ae i) j):=λ j=>by
  by_cases hj:j=id
  .subst hj
   simp only[a7O]
   exact⟨λ _=>rfl,(λ e τ xs hh=>by rw[aW] at hh;cases hh),(λ hh=>by rw[aW] at hh;cases hh),λ hh=>by rw[aW] at hh;cases hh⟩
  .simp only[a5J hj];exact er.refl _
 refine bn.QC h id _ _ b aW (by rw[k1];rfl) ⟨λ _=>rfl,(λ e τ xs hh=>by cases hh),(λ hh=>by cases hh),λ hh=>by cases hh⟩ rfl (λ k hk=>oi w k3 k hk) rfl rfl rfl (by simp[World.setRow]) ?_
 refine⟨b,_,t,k1,a9R w b _ _ t _ k3,?_⟩
 have key:aN (C1 c G s.ae w) (cs.take off++(new++cs.drop (off+new.length))) (l.take off++x.cells.toList++l.drop (off+τ.size)):=by
  rw[a6u,<-h3]
  exact aN.append (k4.take off) (aN.append h1 (k4.drop _))
 exact key.imp λ u y _ hy=>hy.mono (λ j _=>⟨gd j,rfl⟩) (λ _ h=>h) cp
theorem Nn(cur cF:List Value)(o sz N:Nat)(hv:cF.length=sz)(hN:o+sz<=N)(hc:N<=cur.length) :
  (cur.take o++cF++cur.drop (o+sz)).take N=(cur.take N).take o++cF++(cur.take N).drop (o+sz):=by
 have h1:(cur.take o++cF).length=o+sz:=by simp[hv];omega
 rw[a9i,h1,a6O (by omega),List.take_take,a9s (by omega),List.drop_take]
theorem dA.a0X{S:Nat->Prop}{n:Nat}{d':D}{c':List Value}(hd:Rd w S d' c')(uy:c'.length=n):∀ (ds:List D) {l:List Value} (i:Nat),dA w S ds l->(∀ d∈ds,d.size=n)->i<ds.length->dA w S (ds.set i d') (l.take (i * n)++c'++l.drop (i * n+n))
 | [],l,i,_,_,hi=>by simp at hi
 | e::ds,l,0,h,hn,_=>by
  obtain⟨c1,r,rfl,h2,h3⟩:=h
  have hc:c1.length=n:=by rw[Rd.length _ h2];exact hn _ (by simp)
  refine⟨c',r,?_,hd,h3⟩
  simp only[a8K,a8d,a6C,a6X]
  rw[<-hc,a7L]
 | e::ds,l,i+1,h,hn,hi=>by
  obtain⟨c1,r,rfl,h2,h3⟩:=h
  have hc:c1.length=n:=by rw[Rd.length _ h2];exact hn _ (by simp)
  refine⟨c1,r.take (i * n)++c'++r.drop (i * n+n),?_,h2,dA.a0X hd uy ds i h3 (λ d hd=>hn d (by simp[hd])) (by simpa using hi)⟩
  have e1:(i+1) * n=c1.length+i * n:=by rw[a6G,hc];omega
  rw[e1,a9i,a6O (by omega),show c1.length+i * n - c1.length=i * n by omega,a8z,List.drop_append,a7v (by omega),a6C,
   show c1.length+(i * n+n) - c1.length=i * n+n by omega]
  simp
theorem Inv.Ws(hE:bJ c.P c.E)(h:Inv c G s a w){T:TypeId}{τ:Ty}{bt e:Nat}(hT:ae c.E.ty T=some (τ,bt,e)){id i:Nat}{e':TypeId}{xs:List τ.den}{v:AV}{y:τ.den}{x p:Value}(aW:s.ae id=some (.row e' τ xs))
  (hp:VR c G s.ae w (.ei id i 0) p) (hx:VR c G s.ae w v x) (hy:AU (λ _=>none) τ v=some y) :
  ∃ w',(Instr.storeAt T p x).run c.P w = .ok () w'/\Inv c G { s with aH:=(id, .row e' τ (xs.set i y))::bK id s.aH } a w':=by
 obtain⟨b,n,cap,e1,OH,OG,k1,k2,k3,rfl⟩:=hp
 rw[aW] at k2
 simp only[a5E,av.row.injEq] at k2
 obtain⟨rfl,rfl,k2⟩:=k2
 have k2:=a9q k2
 subst k2
 have hr:=(Gt hy hx).cells
 have tO:x.cells.toList.length=τ.size:=by
  have:=Rd.length _ hr
  rwa [show TV.aK ⟨τ,y⟩=τ.aK y from rfl,Ty.cK] at this
 have vg:∀ u∈x.cells.toList,u.oneCell'=true:=Rd.mz (x:=y) hr
 obtain⟨l,m1,m2,m3⟩:=h.aH id _ aW
 have cz:∀ d∈xs.map τ.aK,d.size=τ.size:=by
  intro d hd
  obtain⟨z,_,rfl⟩:=a5K.1 hd
  exact Ty.cK τ z
 have VT:=dA.length _ m2 cz
 simp only[a6B] at VT
 have BY:i * τ.size+τ.size<=xs.length * τ.size:=by
  have:=a7A τ.size (show i+1<=xs.length by omega)
  rw[a6G] at this
  omega
 rcases m1.2 with ⟨hv,_⟩|⟨g,Rv,cur,hv,_,hh,K8,TW,mD,XO⟩
 .rw[k1] at hv;cases hv
 .rw[k1] at hv
  simp only[a7B,a5E,a7K,a5R] at hv
  obtain⟨rfl,rfl,rfl⟩:=hv
  have BV:xs.length * τ.size<=cur.toList.length:=by
   rw[a6y (xs:=cur),mD];exact a7A _ K8
  have cS:=zT (c:=c) (l:=cur.toList) hE hT (o:=i * τ.size+0) (x:=x) (by simpa using hh) tO vg (by omega)
  refine⟨_,cS,?_⟩
  have cu:af.ae { s with aH:=(id, .row e' τ (xs.set i y))::bK id s.aH }=λ j=>if j=id then some (.row e' τ (xs.set i y)) else s.ae j:=by
   funext j
   show ae (_::bK id s.aH) j=_
   rw[dE,eo]
   by_cases hj:j=id
   .simp[hj]
   .simp[hj];rfl
  unfold Inv
  rw[cu]
  refine bn.QC h id _ _ b aW (by rw[k1];rfl) ⟨λ hh=>(by cases hh),λ e2 mr oB hh=>?_,(λ hh=>by cases hh),λ hh=>by cases hh⟩ rfl (λ k hk=>oi w hh k hk) rfl rfl rfl (by simp[World.setRow]) ?_
  .simp only[a5E,av.row.injEq] at hh
   obtain⟨rfl,rfl,hh⟩:=hh
   have hh:=a9q hh
   subst hh
   exact⟨_,_,rfl,by simp⟩
  .refine⟨(l.take (i * τ.size)++x.cells.toList++l.drop (i * τ.size+τ.size)),⟨?_, .inr ⟨b,cap,_,by simpa using k1,Nat.zero_le _,setRow_heap w b cur _ e' _ hh,by simpa using K8,TW,?_,?_⟩⟩,?_,by simpa using m3⟩
   .rw[a7V,a5U,a5U,a6R,a6S,tO,VT];omega
   .rw[List.size_toArray,a5U,a5U,a6R,a6S,tO,<-mD,<-a6y (xs:=cur)];omega
   .simp only[a7D,a7V]
    rw[Nn _ _ _ _ _ tO BY BV,XO]
   .rw[a8E]
    have:=dA.a0X hr (by rw[tO]) _ i m2 cz (by simpa using k3)
    refine dA.aM (λ _ h=>h) (λ k hk=>oi w hh k λ e=>?_) _ this
    subst e
    exact (h.place id _ k aW (by rw[k1];rfl)).2.1 hk
theorem Inv.LN(hE:bJ c.P c.E)(h:Inv c G s a w){T:TypeId}{κ ε:Ty}(hT:ae c.E.Sz T=some (κ,ε)){id:Nat}{f:κ.den->Option ε.den}{n:Nat}(aW:s.ae id=some (.map ⟨κ,ε,f,n⟩))
  {k:κ.den} {x:ε.den} {p y z:Value} (hp:VR c G s.ae w (.mp id) p) (hy:eI w G.S ⟨κ,k⟩ y) (hz:eI w G.S ⟨ε,x⟩ z) (hn:n<1000000000) :
  ∃ w',(Instr.mapUpdate T p y z).run c.P w = .ok () w'/\Inv c G { s with aH:=(id, .map ⟨κ,ε,EB f k x,KF (f k) n⟩)::bK id s.aH } a w':=by
 obtain⟨kT,eT,u1,u2,u3,u4,_⟩:=hE.map hT w
 obtain⟨b,es,clock,k1,k2,k3⟩:=h.aH id _ aW
 have sc:∀ {τ:Ty} {q:τ.den} {v:Value},τ.key=true->eI w G.S ⟨τ,q⟩ v->ur τ q v:=λ {τ q v} hs hv=>by
  refine ur.of (w:=w) (S:=G.S) hs ?_
  cases τ with
  | int _=>exact hv
  | bool=>exact hv
  | str=>exact hv
  | _=>cases hs
 obtain⟨W0,LH,m1,m2⟩:=k3.store (P:=c.P) u1 u2 k2 (sc u3 hy) (sc u4 hz) hn
 obtain⟨Ox,_⟩:=hp
 refine⟨_,by rw[Ox,k1];exact m1,?_⟩
 have cu:af.ae { s with aH:=(id, .map ⟨κ,ε,EB f k x,KF (f k) n⟩)::bK id s.aH }=λ i=>if i=id then some (.map ⟨κ,ε,EB f k x,KF (f k) n⟩) else s.ae i:=by
  funext i
  show ae ((id,_)::bK id s.aH) i=_
  rw[dE,eo]
  by_cases hi:i=id
  .simp[hi]
  .simp[hi];rfl
 unfold Inv
 rw[cu]
 obtain⟨q1,q2⟩:=MapKept.heap_set (o' := .map W0 LH) k2
 refine bn.QC h id _ _ b aW (by rw[k1];rfl) ⟨λ hh=>(by cases hh),(λ e τ xs hh=>by cases hh),(λ hh=>by cases hh),λ _=>rfl⟩ rfl q2 rfl rfl rfl (by simp) ?_
 exact⟨b,W0,LH,k1,q1,m2⟩
theorem Inv.append(hE:bJ c.P c.E)(h:Inv c G s a w){T:TypeId}{τ:Ty}{bt e id d:Nat}(hT:ae c.E.ty T=some (.slice τ,bt,e)){xs ys:List τ.den}{y:AV}{v z:Value}(aW:s.ae id=some (.row e τ xs))
  (hv:VR c G s.ae w (.row id) v) (hz:VR c G s.ae w y z) (hy:lF (HH s.ae) (.slice τ) y=some ys) (zD:cE (xs.length+ys.length) bt) (ty:TypeId) :
  ∃ v' w' G',(Builtin.append_ #[T,T] ty #[v,z]).run c.P w = .ok v' w' /\
   Inv c G' { aw:=(s.bW id).aw.set d (.row id),aH:=(id, .row e τ (xs++ys))::bK id (s.bW id).aH } (a.put (some d) v') w':=by
 obtain⟨rfl,_,_⟩:=hv
 have hzc:C1 c G s.ae w y z:=by
  refine hz.Py ?_
  cases y with
  | aS u =>
   have e:=TV.bd hy
   subst e
   rfl
  | nil=>rfl
  | row i=>rfl
  | aB i=>rfl
  | _=>cases hy
 obtain⟨l,m1,m2,m3⟩:=h.aH id _ aW
 obtain⟨v',w',news,k1,k2,k3,k4,k5,k6⟩:=Ki (w:=w) (base:=0) hE hT m1 (a6N _) (UJ h.aH (Cs λ _ _ h=>h) SA hy hzc) zD ty
 have La:=sw m1
 have a0M:=sw k2
 obtain⟨h1,h2,h3⟩:=h.clear id
 have jH:∀ b,dS (G.η id)=some b->(c.w0.heap.size<=b\/c.X b)/\¬ G.S b/\b<w.heap.size:=λ b hb=>h.place id _ b aW hb
 have hw:∀ b,b<w.heap.size->dS (G.η id)≠some b->w'.heap[b]?=w.heap[b]?:=λ b hb dU=>k3.block b hb (by rw[La];exact λ e=>dU e.symm)
 have cp:∀ b,St c G.S b->w'.heap[b]?=w.heap[b]?:=λ b hb=>by
  refine hw b ?_ λ e=>?_
  .rcases hb with hb|hb
   .exact h.dX b hb
   .exact a5Q hb.1 h.aM.size
  .obtain⟨q1,q2,q3⟩:=jH b e
   rcases hb with hb|hb
   .exact q2 hb
   .exact q1.elim (λ q=>by omega) hb.2.1
 have a4w:∀ j τ xs b,s.ae j=some (.aB τ xs)->b∈G.φ j->w'.heap[b]?=w.heap[b]?:=λ j τ xs b hj hb =>
  hw b (h.aT.pl j τ xs b hj hb).2.2.1 ((h.aT.pl j τ xs b hj hb).2.2.2 id _ aW)
 have yj:∀ j o b,j≠id->s.ae j=some o->dS (G.η j)=some b->w'.heap[b]?=w.heap[b]?:=λ j o b hj ho hb=>by
  refine hw b (h.place j o b ho hb).2.2 λ e=>?_
  exact hj (h.apart j id o _ b ho aW hb e)
 have h4:bn c ⟨G.S,G.η,G.φ⟩ (s.bW id).sl s.aw.length (λ i=>if i=id then none else (s.bW id).ae i) a w':=by
  refine h1.world (S':=G.S) ⟨k3.os,k3.tape,k3.output,k3.size,λ b hb hx=>hw b hb λ e=>hx (jH b e).1⟩ (λ _ h=>h) (λ _ _=>a7N) h1.sX (λ b hb=>a5Q (h1.dX b hb) k3.size) cp ?_ (λ j τ xs b hj hb=>by
   by_cases tN:j=id
   .simp[tN] at hj
   .rw[a5J tN,dY] at hj
    exact a4w j τ xs b (ly hj) hb)
  intro j o b hj hb
  by_cases tN:j=id
  .simp[tN] at hj
  .rw[a5J tN,dY] at hj
   simp only[a6r] at hj
   obtain⟨o',cM,_⟩:=hj
   exact yj j o' b tN cM hb
 have a2e:((xs++ys).length)=xs.length+ys.length:=by simp
 have h5:=bn.newObj h4 id (.row e τ (xs++ys)) v' (by simp) h2 (λ i p uv=>by
  by_cases hi:i=id
  .simp[hi] at uv
  .rw[a5J hi] at uv
   exact h3 i p uv) rfl ⟨l++news,by simpa using k2,by
    rw[a7l]
    exact dA.append _ _ (dA.aM (λ _ h=>h) (λ b hb=>cp b (.inl hb)) _ m2) (dA.aM (λ _ h=>h) (λ b hb=>cp b (.inl hb)) _ k5),by rw[a2e];exact k6⟩ rfl (.inl rfl) (λ b hb=>by
  have bF:=(k2.lt b (a0M.trans hb)).2
  have vd:dS (G.η id)=some b\/b=w.heap.size:=by
   rw[<-a0M,] at hb
   rcases k4 with q|q
   .left;rw[<-La,<-q];exact hb
   .right;rw[q] at hb;exact (a6Z hb).symm
  refine⟨?_,?_,bF,λ j p VP K6=>?_,λ j mr oB Hs K6=>?_⟩
  .rcases vd with q|q
   .exact (jH b q).1
   .have:=h.aM.size;omega
  .rcases vd with q|q
   .exact (jH b q).2.1
   .intro hs;have:=h.dX b hs;omega
  .by_cases tN:j=id
   .simp[tN] at VP
   .rw[a5J tN,dY] at VP
    simp only[a6r] at VP
    obtain⟨o',cM,_⟩:=VP
    rcases vd with q|q
    .exact tN (h.apart j id o' _ b cM aW K6 q)
    .have:=(h.place j o' b cM K6).2.2
     omega
  .by_cases tN:j=id
   .simp[tN] at Hs
   .rw[a5J tN,dY] at Hs
    obtain⟨_,_,q3,q4⟩:=h.aT.pl j mr oB b (ly Hs) K6
    rcases vd with q|q
    .exact q4 id _ aW q
    .omega)
 refine⟨v',w',⟨G.S,λ i=>if i=id then v' else G.η i,G.φ⟩,k1,?_⟩
 unfold Inv
 have cu:af.ae { aw:=(s.bW id).aw.set d (.row id),aH:=(id, .row e τ (xs++ys))::bK id (s.bW id).aH }=λ i=>if i=id then some (.row e τ (xs++ys)) else (if i=id then none else (s.bW id).ae i):=by
  funext i
  show ae (_::bK id (s.bW id).aH) i=_
  rw[dE,eo]
  rfl
 have FF:af.sl { aw:=(s.bW id).aw.set d (.row id),aH:=(id, .row e τ (xs++ys))::bK id (s.bW id).aH }=lL s.aw.length (s.bW id).sl (some d) (.row id):=by
  have:=rv (s.bW id).aw d (.row id) ((id, .row e τ (xs++ys))::bK id (s.bW id).aH)
  rw[show (s.bW id).aw.length=s.aw.length from by simp[af.bW]] at this
  exact this
 rw[FF,cu,show ({ aw:=(s.bW id).aw.set d (.row id),aH:=(id, .row e τ (xs++ys))::bK id (s.bW id).aH }:af).aw.length=s.aw.length from by simp[af.bW]]
 refine bn.put h5 ⟨by simp,by simp[isRow],?_⟩
 rcases k2.2 with ⟨rfl,_⟩|⟨g,cap,cur,rfl,_⟩
 .exact⟨_,_,_,rfl⟩
 .exact⟨_,_,_,rfl⟩
end
end Go.Proofs.YtnehkikdlnmebaaGreatDoor
